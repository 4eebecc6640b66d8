/- That the printed law TariffPriceAdditive answers true at every tariff and all numbers. No condition that the law itself does not guard. -/
import Derived.Test.YtldpacphackdjaaPTarRef3
import Derived.Test.YtldpacphackdjaaRowKit
import Derived.Test.YtldpacphackdjaaF5
namespace Go.Proofs.Ytldpacphackdjaa.Print
open Go.RowKit Go.Proofs.YtldpacphackdjaaW.PrintWords Go.Proofs.YtldpacphackdjaaW.PrintLast Go.Proofs.YtldpacphackdjaaW.PrintMore
set_option linter.unusedVariables false
set_option linter.unusedSimpArgs false

theorem padd_skip (k : Nat) (l : List S42) (a b c : Int) : crossbarlaw26_TariffPriceAdditive.j0 (k + 1) a b c true l = some true := by
  simp only [crossbarlaw26_TariffPriceAdditive.j0]; rw [if_pos trivial]
theorem TariffPriceAdditive_pure (l : List S42) (a b c : Int) (hn : l.length ≤ 9223372036854775807) (hw : ∀ x ∈ l, Rng x.f0 ∧ Rng x.f1) (w1 : (Lit.int .i64 a).wf = true) (w2 : (Lit.int .i64 b).wf = true) (w3 : (Lit.int .i64 c).wf = true) : ∃ k, crossbarlaw26_TariffPriceAdditive.f k l a b c = some true := by
  refine ⟨200, ?_⟩
  unfold crossbarlaw26_TariffPriceAdditive.f
  rw [sane26_is 200 (by omega), Option.bind_some, if_pos rfl, few_is, Option.bind_some]
  by_cases hf : l.length ≤ 100
  · rw [if_pos (decide_eq_true hf)]
    by_cases h1 : a > b
    · rw [if_pos h1]; exact padd_skip 199 l a b c
    · rw [if_neg h1]
      by_cases h2 : b > c
      · rw [decide_eq_true h2]; exact padd_skip 199 l a b c
      · rw [decide_eq_false h2]
        simp only [crossbarlaw26_TariffPriceAdditive.j0]
        rw [if_neg (by simp)]
        by_cases h : good l = true ∧ 0 ≤ a ∧ c ≤ 1099511627776
        · obtain ⟨hg, h3, h4⟩ := h
          rw [price_ok hg a c h3 (by omega) h4 199 (by omega), Option.bind_some, if_pos rfl, price_ok hg a b h3 (by omega) (by omega) 199 (by omega), Option.bind_some, price_ok hg b c (by omega) (by omega) h4 199 (by omega), Option.bind_some, price_ok hg b b (by omega) (by omega) (by omega) 199 (by omega), Option.bind_some, if_pos rfl, if_pos rfl, if_pos rfl]
          have b1 := totalP_bd hg a h3
          have b2 := totalP_bd hg b (by omega)
          have b3 := totalP_bd hg c (by omega)
          rw [if_pos (show totalP l c - totalP l a = wrap64 (totalP l b - totalP l a + (totalP l c - totalP l b)) by unfold wrap64; omega)]
          simp only [crossbarlaw26_TariffPriceAdditive.j1]
          rw [if_neg (by simp)]
          by_cases he : a = c
          · subst he; rw [if_pos rfl]; simp
          · rw [if_neg he, show wrap64 (a + 1) = a + 1 by unfold wrap64; omega, price_ok hg a (a + 1) h3 (by omega) (by omega) 198 (by omega), Option.bind_some, rate_ok hg a h3 (by omega) 198 (by omega), Option.bind_some, if_pos rfl, if_pos rfl, totalP_succ hg a h3]
            simp
            omega
        · obtain ⟨e, he, hne⟩ := price_no l a c (fun hx => h ⟨hx.1, hx.2.1, hx.2.2.2⟩) 199 (by omega)
          rw [he, Option.bind_some, if_neg hne]
          simp
  · rw [if_neg (by simpa using hf)]
    exact padd_skip 199 l a b c
end Go.Proofs.Ytldpacphackdjaa.Print
