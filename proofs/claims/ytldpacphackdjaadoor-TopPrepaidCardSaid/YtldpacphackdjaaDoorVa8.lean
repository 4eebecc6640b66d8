/- What the printed Rate, Price and the told Afford of package tariff answer, in plain words. Conditions: enough rounds. -/
import Derived.Test.YtldpacphackdjaaDoorVa1
import Derived.Test.YtldpacphackdjaaDoorVa3
namespace Go.Proofs.YtldpacphackdjaaDoor.Print
open Go.RowKit Go.Proofs.YtldpacphackdjaaDoorW.PrintWords Go.Proofs.YtldpacphackdjaaDoorW.PrintLast Go.Proofs.YtldpacphackdjaaDoorW.PrintMore
set_option linter.unusedVariables false
set_option linter.unusedSimpArgs false

theorem tmod_day (x : Int) (hx : 0 ≤ x) : Int.tmod x 86400 = x % 86400 := Int.tmod_eq_emod_of_nonneg hx
theorem band_is {l : List S70} (hg : good l = true) (x : Int) (hx : 0 ≤ x) : tariff_band.f l (Int.tmod x 86400) = some ((upTo (x % 86400) l : Int) - 1) := by
  rw [tmod_day x hx]
  unfold tariff_band.f
  rw [if_pos ⟨hg, by omega, by omega⟩]
theorem rate_is (l : List S70) (x : Int) (k : Nat) (hk : 25 ≤ k) : tariff_Rate.f k l x = some (if good l = true then (if 0 ≤ x ∧ x ≤ 1099511627776 then (rateAt l (x % 86400), 0) else (0, 1)) else (0, 260)) := by
  unfold tariff_Rate.f
  rw [check_is l k hk, Option.bind_some]
  by_cases hg : good l = true
  · rw [if_pos hg, if_pos rfl, if_pos hg, within_is, Option.bind_some]
    by_cases hx : 0 ≤ x ∧ x ≤ 1099511627776
    · have h1 := good_upTo_pos hg (x % 86400) (by omega)
      have h2 := upTo_le (x % 86400) l
      rw [decide_eq_true hx, if_pos rfl, band_is hg x hx.1, Option.bind_some, if_pos (by omega), if_pos (by omega), if_pos hx, rateAt_eq hg _ (by omega)]
      rw [show ((upTo (x % 86400) l - 1 : Nat) : Int) = (upTo (x % 86400) l : Int) - 1 by omega]
    · rw [decide_eq_false hx, if_neg (by simp), if_neg hx]
  · rw [if_neg hg, if_neg (by omega), if_neg hg]
theorem price_is (l : List S70) (a b : Int) (k : Nat) (hk : 25 ≤ k) : tariff_Price.f k l a b = some (if good l = true then (if 0 ≤ a ∧ a ≤ b ∧ b ≤ 1099511627776 then (totalP l b - totalP l a, 0) else (0, 1)) else (0, 260)) := by
  obtain ⟨k, rfl⟩ : ∃ m, k = m + 1 := ⟨k - 1, by omega⟩
  unfold tariff_Price.f
  rw [check_is l _ hk, Option.bind_some]
  by_cases hg : good l = true
  · rw [if_pos hg, if_pos rfl, if_pos hg]
    by_cases h1 : a < 0
    · rw [if_pos h1, if_neg (by omega)]; simp only [tariff_Price.j0]; rw [if_pos trivial]
    · rw [if_neg h1]
      by_cases h2 : b < a
      · rw [if_pos h2, if_neg (by omega)]; simp only [tariff_Price.j0]; rw [if_pos trivial]
      · rw [if_neg h2]
        by_cases h3 : b > 1099511627776
        · rw [decide_eq_true h3, if_neg (by omega)]; simp only [tariff_Price.j0]; rw [if_pos trivial]
        · rw [decide_eq_false h3, if_pos (by omega)]
          simp only [tariff_Price.j0]
          rw [if_neg (by simp)]
          unfold tariff_until.f
          rw [if_pos ⟨hg, by omega, by omega⟩, Option.bind_some, if_pos ⟨hg, by omega, by omega⟩, Option.bind_some]
          have b1 := totalP_bd hg b (by omega)
          have b2 := totalP_bd hg a (by omega)
          rw [show wrap64 (totalP l b - totalP l a) = totalP l b - totalP l a by unfold wrap64; omega]
  · rw [if_neg hg, if_neg (by omega), if_neg hg]

theorem price_ok {l : List S70} (hg : good l = true) (a b : Int) (h0 : 0 ≤ a) (h1 : a ≤ b) (h2 : b ≤ 1099511627776) (k : Nat) (hk : 25 ≤ k) : tariff_Price.f k l a b = some (totalP l b - totalP l a, 0) := by
  rw [price_is l a b k hk, if_pos hg, if_pos ⟨h0, h1, h2⟩]
theorem rate_ok {l : List S70} (hg : good l = true) (x : Int) (h0 : 0 ≤ x) (h1 : x ≤ 1099511627776) (k : Nat) (hk : 25 ≤ k) : tariff_Rate.f k l x = some (rateAt l (x % 86400), 0) := by
  rw [rate_is l x k hk, if_pos hg, if_pos ⟨h0, h1⟩]
theorem afford_ok {l : List S70} (hg : good l = true) (a u m : Int) (h0 : 0 ≤ a) (h1 : a ≤ 1099511627776) (h2 : 0 ≤ u) (h3 : 0 ≤ m) (h4 : m ≤ 1099511627776 - a) : tariff_Afford.f l a u m = some ((affN l a u m.toNat : Int), 0) := by
  unfold tariff_Afford.f
  rw [if_pos hg, if_pos ⟨h0, h1, h2, h3, h4⟩]
end Go.Proofs.YtldpacphackdjaaDoor.Print
