/- That the printed law TariffPeriodic answers true at every tariff and all numbers. No condition that the law itself does not guard. -/
import Derived.Test.YtldpacphackdjaaPTarRef3
import Derived.Test.YtldpacphackdjaaRowKit
import Derived.Test.YtldpacphackdjaaF6
namespace Go.Proofs.Ytldpacphackdjaa.Print
open Go.RowKit Go.Proofs.YtldpacphackdjaaW.PrintWords Go.Proofs.YtldpacphackdjaaW.PrintLast Go.Proofs.YtldpacphackdjaaW.PrintMore
set_option linter.unusedVariables false
set_option linter.unusedSimpArgs false

theorem per_skip (k : Nat) (l : List S42) (a b n : Int) : crossbarlaw26_TariffPeriodic.j0 (k + 1) a b n true l = some true := by
  simp only [crossbarlaw26_TariffPeriodic.j0]; rw [if_pos trivial]
theorem TariffPeriodic_pure (l : List S42) (a b d : Int) (hn : l.length ≤ 9223372036854775807) (hw : ∀ x ∈ l, Rng x.f0 ∧ Rng x.f1) (w1 : (Lit.int .i64 a).wf = true) (w2 : (Lit.int .i64 b).wf = true) (w3 : (Lit.int .u16 d).wf = true) : ∃ k, crossbarlaw26_TariffPeriodic.f k l a b d = some true := by
  have hd : 0 ≤ d ∧ d ≤ 65535 := by have h := w3; simp only [Lit.wf, Bool.and_eq_true, decide_eq_true_eq] at h; exact h
  refine ⟨200, ?_⟩
  unfold crossbarlaw26_TariffPeriodic.f
  rw [sane26_is 200 (by omega), Option.bind_some, if_pos rfl, few_is, Option.bind_some, show wrap64 (wrap64 d * 86400) = d * 86400 by unfold wrap64; omega]
  by_cases hf : l.length ≤ 100
  · rw [if_pos (decide_eq_true hf), check_is l 200 (by omega), Option.bind_some]
    by_cases hg : good l = true
    · rw [if_pos hg, if_pos rfl]
      by_cases h1 : a < 0
      · rw [if_pos h1]; exact per_skip 199 l a b _
      rw [if_neg h1]
      by_cases h2 : b < a
      · rw [if_pos h2]; exact per_skip 199 l a b _
      rw [if_neg h2, show wrap64 (1099511627776 - d * 86400) = 1099511627776 - d * 86400 by unfold wrap64; omega]
      by_cases h3 : b > 1099511627776 - d * 86400
      · rw [decide_eq_true h3]; exact per_skip 199 l a b _
      rw [decide_eq_false h3]
      simp only [crossbarlaw26_TariffPeriodic.j0]
      rw [if_neg (by simp), rate_ok hg a (by omega) (by omega) 199 (by omega), Option.bind_some, show wrap64 (a + d * 86400) = a + d * 86400 by unfold wrap64; omega, show wrap64 (b + d * 86400) = b + d * 86400 by unfold wrap64; omega,
        rate_ok hg (a + d * 86400) (by omega) (by omega) 199 (by omega), Option.bind_some, price_ok hg a b (by omega) (by omega) (by omega) 199 (by omega), Option.bind_some, price_ok hg (a + d * 86400) (b + d * 86400) (by omega) (by omega) (by omega) 199 (by omega), Option.bind_some]
      obtain ⟨n1, o1, e1, c1, u1⟩ := change_yes hg a (by omega) (by omega) 199 (by omega)
      obtain ⟨n2, o2, e2, c2, u2⟩ := change_yes hg (a + d * 86400) (by omega) (by omega) 199 (by omega)
      obtain ⟨en, rfl⟩ := c2.unique (c1.days d)
      rw [e1, Option.bind_some, e2, Option.bind_some, if_pos rfl, if_pos rfl, if_pos rfl, if_pos rfl, if_pos rfl, if_pos rfl, if_pos (by rw [mod_days]), if_pos (by rw [totalP_days, totalP_days]; omega), if_pos (by simp)]
      by_cases ho : o2 = true
      · rw [if_pos ho] at en
        rw [if_pos ho]
        simp only
        have hlt : a < n1 := by
          rcases c1 with ⟨_, h, _⟩ | ⟨h, _⟩
          · exact h
          · rw [ho] at h; cases h
        rw [show wrap64 (n1 + d * 86400) = n1 + d * 86400 by unfold wrap64; omega, en]
        simp
      · rw [if_neg ho]
    · rw [if_neg hg, if_neg (by omega)]
      exact per_skip 199 l a b _
  · rw [if_neg (by simpa using hf)]
    exact per_skip 199 l a b _
end Go.Proofs.Ytldpacphackdjaa.Print
