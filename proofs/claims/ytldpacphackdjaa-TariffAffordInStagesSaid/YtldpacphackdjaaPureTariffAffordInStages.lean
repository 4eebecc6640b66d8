/- That the printed law TariffAffordInStages answers true at every tariff and all numbers. No condition that the law itself does not guard. -/
import Derived.Test.YtldpacphackdjaaPTarRef3
import Derived.Test.YtldpacphackdjaaRowKit
import Derived.Test.YtldpacphackdjaaF9
namespace Go.Proofs.Ytldpacphackdjaa.Print
open Go.RowKit Go.Proofs.YtldpacphackdjaaW.PrintWords Go.Proofs.YtldpacphackdjaaW.PrintLast Go.Proofs.YtldpacphackdjaaW.PrintMore
set_option linter.unusedVariables false
set_option linter.unusedSimpArgs false

theorem stages_skip (k : Nat) (l : List S42) (a u m p : Int) : crossbarlaw26_TariffAffordInStages.j0 (k + 1) a u m p true l = some true := by
  simp only [crossbarlaw26_TariffAffordInStages.j0]; rw [if_pos trivial]
theorem TariffAffordInStages_pure (l : List S42) (a u m p : Int) (hn : l.length ≤ 9223372036854775807) (hw : ∀ x ∈ l, Rng x.f0 ∧ Rng x.f1) (w1 : (Lit.int .i64 a).wf = true) (w2 : (Lit.int .i64 u).wf = true) (w3 : (Lit.int .i64 m).wf = true) (w4 : (Lit.int .i64 p).wf = true) : ∃ k, crossbarlaw26_TariffAffordInStages.f k l a u m p = some true := by
  refine ⟨200, ?_⟩
  unfold crossbarlaw26_TariffAffordInStages.f
  rw [sane26_is 200 (by omega), Option.bind_some, if_pos rfl, few_is, Option.bind_some]
  by_cases hf : l.length ≤ 100
  · rw [if_pos (decide_eq_true hf)]
    by_cases hp : p < 0
    · rw [decide_eq_true hp]; exact stages_skip 199 l a u m p
    · rw [decide_eq_false hp]
      simp only [crossbarlaw26_TariffAffordInStages.j0]
      rw [if_neg (by simp)]
      by_cases h : good l = true ∧ 0 ≤ a ∧ a ≤ 1099511627776 ∧ 0 ≤ u ∧ 0 ≤ m ∧ m ≤ 1099511627776 - a
      · obtain ⟨hg, h0, h1, h2, h3, h4⟩ := h
        obtain ⟨n, rfl⟩ := Int.eq_ofNat_of_zero_le h3
        rw [afford_ok hg a u n h0 h1 h2 h3 h4, Option.bind_some, if_pos rfl, Int.toNat_natCast]
        have k1 := affN_pays hg a u h0 h2 n
        have k2 := affN_max hg a u h0 n
        have k3 := affN_le l a u n
        generalize affN l a u n = i at k1 k2 k3 ⊢
        obtain ⟨q, hq, hqi⟩ : ∃ q : Nat, mn p (i : Int) = (q : Int) ∧ q ≤ i := by
          refine ⟨(mn p (i : Int)).toNat, ?_, ?_⟩ <;> (unfold mn; omega)
        rw [hq, show wrap64 (a + (q : Int)) = a + q by unfold wrap64; omega, price_ok hg a (a + q) h0 (by omega) (by omega) 199 (by omega), Option.bind_some]
        have m1 := totalP_mono hg a (a + q) h0 (by omega)
        have m2 := totalP_mono hg (a + q) (a + i) (by omega) (by omega)
        have b1 := totalP_bd hg a h0
        have b2 := totalP_bd hg (a + q) (by omega)
        rw [show wrap64 (u - (totalP l (a + q) - totalP l a)) = u - (totalP l (a + q) - totalP l a) by simp [Lit.wf] at w2; unfold wrap64; omega, show wrap64 ((n : Int) - (q : Int)) = ((n - q : Nat) : Int) by unfold wrap64; omega]
        rw [afford_ok hg (a + q) _ _ (by omega) (by omega) (by omega) (by omega) (by omega), Option.bind_some, if_pos rfl, if_pos rfl, Int.toNat_natCast]
        have hu := affN_unique hg (a + q) (u - (totalP l (a + q) - totalP l a)) (by omega) (by omega) (n - q) (i - q) (by omega)
          (by rw [show a + (q : Int) + ((i - q : Nat) : Int) = a + i by omega]; omega)
          (fun hlt => by rw [show a + (q : Int) + ((i - q : Nat) : Int) + 1 = a + i + 1 by omega]; have := k2 (by omega); omega)
        rw [hu, show wrap64 ((q : Int) + ((i - q : Nat) : Int)) = (i : Int) by unfold wrap64; omega]
        simp
      · obtain ⟨e, he, hne⟩ := afford_no l a u m h
        rw [he, Option.bind_some, if_neg hne]
        simp
  · rw [if_neg (by simpa using hf)]
    exact stages_skip 199 l a u m p
end Go.Proofs.Ytldpacphackdjaa.Print
