/- That the printed law TariffConstantUntilChange answers true at every tariff and all numbers. No condition that the law itself does not guard. -/
import Derived.Test.YtldpacphackdjaaPTarRef3
import Derived.Test.YtldpacphackdjaaRowKit
import Derived.Test.YtldpacphackdjaaF7
namespace Go.Proofs.Ytldpacphackdjaa.Print
open Go.RowKit Go.Proofs.YtldpacphackdjaaW.PrintWords Go.Proofs.YtldpacphackdjaaW.PrintLast Go.Proofs.YtldpacphackdjaaW.PrintMore
set_option linter.unusedVariables false
set_option linter.unusedSimpArgs false

theorem con_skip (k : Nat) (l : List S42) (a b : Int) : crossbarlaw26_TariffConstantUntilChange.j0 (k + 1) a b true l = some true := by
  simp only [crossbarlaw26_TariffConstantUntilChange.j0]; rw [if_pos trivial]
theorem TariffConstantUntilChange_pure (l : List S42) (a o : Int) (hn : l.length ≤ 9223372036854775807) (hw : ∀ x ∈ l, Rng x.f0 ∧ Rng x.f1) (w1 : (Lit.int .i64 a).wf = true) (w2 : (Lit.int .i64 o).wf = true) : ∃ k, crossbarlaw26_TariffConstantUntilChange.f k l a o = some true := by
  refine ⟨200, ?_⟩
  unfold crossbarlaw26_TariffConstantUntilChange.f
  rw [sane26_is 200 (by omega), Option.bind_some, if_pos rfl, few_is, Option.bind_some]
  by_cases hf : l.length ≤ 100
  · rw [if_pos (decide_eq_true hf)]
    by_cases h1 : o < 0
    · rw [if_pos h1]; exact con_skip 199 l a o
    rw [if_neg h1]
    by_cases h2 : o > 200000
    · rw [if_pos h2]; exact con_skip 199 l a o
    rw [if_neg h2]
    by_cases h3 : a < 0
    · rw [if_pos h3]; exact con_skip 199 l a o
    rw [if_neg h3]
    by_cases h4 : a > 1099511327776
    · rw [decide_eq_true h4]; exact con_skip 199 l a o
    rw [decide_eq_false h4]
    simp only [crossbarlaw26_TariffConstantUntilChange.j0]
    rw [if_neg (by simp)]
    by_cases hg : good l = true
    · obtain ⟨nx, ok, e1, c1, u1⟩ := change_yes hg a (by omega) (by omega) 199 (by omega)
      rw [e1, Option.bind_some, if_pos rfl, rate_ok hg a (by omega) (by omega) 199 (by omega), Option.bind_some]
      rcases c1 with ⟨rfl, c2, c3, c4⟩ | ⟨rfl, rfl, c4⟩
      · rw [if_pos rfl, if_neg (by omega), show wrap64 (a + 86400) = a + 86400 by unfold wrap64; omega, decide_eq_false (by omega)]
        simp only [crossbarlaw26_TariffConstantUntilChange.j1]
        rw [if_neg (by simp), if_pos trivial, rate_ok hg nx (by omega) (by omega) 198 (by omega), Option.bind_some, price_ok hg a nx (by omega) (by omega) (by omega) 198 (by omega), Option.bind_some, if_pos rfl, if_pos rfl, if_neg c3]
        have hr := rateAt_bd hg (a % 86400)
        have hfl := totalP_flat hg a (by omega) (rateAt l (a % 86400)) (nx - a).toNat (fun y h1 h2 => c4 y h1 (by omega))
        rw [show a + (((nx - a).toNat : Nat) : Int) = nx by omega, show (((nx - a).toNat : Nat) : Int) = nx - a by omega] at hfl
        have hmul := mul_bd (nx - a) (rateAt l (a % 86400)) (by omega) hr.1 hr.2
        rw [hfl, show wrap64 (nx - a) = nx - a by unfold wrap64; omega]
        generalize (nx - a) * rateAt l (a % 86400) = pr at hmul ⊢
        rw [if_pos (show pr = wrap64 pr by unfold wrap64; omega), show wrap64 (a + o) = a + o by unfold wrap64; omega, rate_ok hg (a + o) (by omega) (by omega) 198 (by omega), Option.bind_some, if_pos rfl, if_pos trivial]
        by_cases hge : a + o ≥ nx
        · rw [if_pos hge]
        · rw [if_neg hge, c4 (a + o) (by omega) (by omega)]
          simp
      · rw [if_neg (by simp)]
        simp only [crossbarlaw26_TariffConstantUntilChange.j1]
        rw [if_neg (by simp), if_neg (by simp), show wrap64 (a + o) = a + o by unfold wrap64; omega, rate_ok hg (a + o) (by omega) (by omega) 198 (by omega), Option.bind_some, if_pos rfl, if_pos trivial, c4 (a + o)]
        simp
    · rw [change_no l a 199 (by omega) (fun h => hg h.1), Option.bind_some, if_neg hg, if_neg (by simp), if_pos rfl]
      rfl
  · rw [if_neg (by simpa using hf)]
    exact con_skip 199 l a o
end Go.Proofs.Ytldpacphackdjaa.Print
