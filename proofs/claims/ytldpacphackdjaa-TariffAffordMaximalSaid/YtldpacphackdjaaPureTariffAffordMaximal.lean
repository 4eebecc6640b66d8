/- That the printed law TariffAffordMaximal answers true at every tariff and all numbers. No condition that the law itself does not guard. -/
import Derived.Test.YtldpacphackdjaaPTarRef3
import Derived.Test.YtldpacphackdjaaRowKit
import Derived.Test.YtldpacphackdjaaF8
namespace Go.Proofs.Ytldpacphackdjaa.Print
open Go.RowKit Go.Proofs.YtldpacphackdjaaW.PrintWords Go.Proofs.YtldpacphackdjaaW.PrintLast Go.Proofs.YtldpacphackdjaaW.PrintMore
set_option linter.unusedVariables false
set_option linter.unusedSimpArgs false

theorem TariffAffordMaximal_pure (l : List S42) (a u m : Int) (hn : l.length ≤ 9223372036854775807) (hw : ∀ x ∈ l, Rng x.f0 ∧ Rng x.f1) (w1 : (Lit.int .i64 a).wf = true) (w2 : (Lit.int .i64 u).wf = true) (w3 : (Lit.int .i64 m).wf = true) : ∃ k, crossbarlaw26_TariffAffordMaximal.f k l a u m = some true := by
  refine ⟨200, ?_⟩
  unfold crossbarlaw26_TariffAffordMaximal.f
  rw [sane26_is 200 (by omega), Option.bind_some, if_pos rfl, few_is, Option.bind_some]
  by_cases hf : l.length ≤ 100
  · rw [if_pos (decide_eq_true hf)]
    by_cases h : good l = true ∧ 0 ≤ a ∧ a ≤ 1099511627776 ∧ 0 ≤ u ∧ 0 ≤ m ∧ m ≤ 1099511627776 - a
    · obtain ⟨hg, h0, h1, h2, h3, h4⟩ := h
      obtain ⟨n, rfl⟩ := Int.eq_ofNat_of_zero_le h3
      rw [afford_ok hg a u n h0 h1 h2 h3 h4, Option.bind_some, if_pos rfl, Int.toNat_natCast]
      have k1 := affN_pays hg a u h0 h2 n
      have k2 := affN_max hg a u h0 n
      have k3 := affN_le l a u n
      generalize affN l a u n = i at k1 k2 k3 ⊢
      rw [show wrap64 (a + (i : Int)) = a + i by unfold wrap64; omega, price_ok hg a (a + i) h0 (by omega) (by omega) 200 (by omega), Option.bind_some, if_neg (by omega), if_neg (by omega), if_pos rfl, decide_eq_false (by omega)]
      simp only [crossbarlaw26_TariffAffordMaximal.j0]
      rw [if_neg (by simp)]
      by_cases he : (i : Int) = (n : Int)
      · rw [if_pos he]
      · rw [if_neg he, show wrap64 (wrap64 (a + (i : Int)) + 1) = a + i + 1 by unfold wrap64; omega, price_ok hg a (a + i + 1) h0 (by omega) (by omega) 199 (by omega), Option.bind_some, if_pos rfl]
        have := k2 (by omega)
        simp
        omega
    · obtain ⟨e, he, hne⟩ := afford_no l a u m h
      rw [he, Option.bind_some, if_neg hne]
      simp
  · rw [if_neg (by simpa using hf)]
end Go.Proofs.Ytldpacphackdjaa.Print
