/- What the printed functions of package tariff answer, in plain words: Rate the rate, Price the difference of two totals, Change the next change. Conditions: enough rounds. -/
import Derived.Test.YtldpacphackdjaaPTariff
import Derived.Test.YtldpacphackdjaaHAfford
import Derived.Test.YtldpacphackdjaaFP
namespace Go.Proofs.Ytldpacphackdjaa.Print
open Go.RowKit Go.Proofs.YtldpacphackdjaaW.PrintWords Go.Proofs.YtldpacphackdjaaW.PrintLast Go.Proofs.YtldpacphackdjaaW.PrintMore
set_option linter.unusedVariables false
set_option linter.unusedSimpArgs false

theorem tmod_day (x : Int) (hx : 0 ≤ x) : Int.tmod x 86400 = x % 86400 := Int.tmod_eq_emod_of_nonneg hx
theorem tdiv_day (x : Int) (hx : 0 ≤ x) : Int.tdiv x 86400 = x / 86400 := Int.tdiv_eq_ediv_of_nonneg hx

theorem band_is {l : List S42} (hg : good l = true) (x : Int) (hx : 0 ≤ x) : tariff_band.f l (Int.tmod x 86400) = some ((upTo (x % 86400) l : Int) - 1) := by
  rw [tmod_day x hx]
  unfold tariff_band.f
  rw [if_pos ⟨hg, by omega, by omega⟩]
theorem rate_is (l : List S42) (x : Int) (k : Nat) (hk : 25 ≤ k) : tariff_Rate.f k l x = some (if good l = true then (if 0 ≤ x ∧ x ≤ 1099511627776 then (rateAt l (x % 86400), 0) else (0, 1)) else (0, 260)) := by
  unfold tariff_Rate.f
  rw [check_is l k hk, Option.bind_some]
  by_cases hg : good l = true
  · rw [if_pos hg, if_pos rfl, if_pos hg, within_is, Option.bind_some]
    by_cases hx : 0 ≤ x ∧ x ≤ 1099511627776
    · have h1 := good_upTo_pos hg (x % 86400) (by omega)
      have h2 := upTo_le (x % 86400) l
      rw [decide_eq_true hx, if_pos rfl, band_is hg x hx.1, Option.bind_some, if_pos (by omega), if_pos (by omega), if_pos hx, rateAt_eq hg _ (by omega)]
      rw [show ((upTo (x % 86400) l - 1 : Nat) : Int) = (upTo (x % 86400) l : Int) - 1 by omega]
    · rw [decide_eq_false hx, if_neg (by simp), if_neg hx]
  · rw [if_neg hg, if_neg (by omega), if_neg hg]
theorem price_is (l : List S42) (a b : Int) (k : Nat) (hk : 25 ≤ k) : tariff_Price.f k l a b = some (if good l = true then (if 0 ≤ a ∧ a ≤ b ∧ b ≤ 1099511627776 then (totalP l b - totalP l a, 0) else (0, 1)) else (0, 260)) := by
  obtain ⟨k, rfl⟩ : ∃ m, k = m + 1 := ⟨k - 1, by omega⟩
  unfold tariff_Price.f
  rw [check_is l _ hk, Option.bind_some]
  by_cases hg : good l = true
  · rw [if_pos hg, if_pos rfl, if_pos hg]
    by_cases h1 : a < 0
    · rw [if_pos h1, if_neg (by omega)]; simp only [tariff_Price.j0]; rw [if_pos trivial]
    · rw [if_neg h1]
      by_cases h2 : b < a
      · rw [if_pos h2, if_neg (by omega)]; simp only [tariff_Price.j0]; rw [if_pos trivial]
      · rw [if_neg h2]
        by_cases h3 : b > 1099511627776
        · rw [decide_eq_true h3, if_neg (by omega)]; simp only [tariff_Price.j0]; rw [if_pos trivial]
        · rw [decide_eq_false h3, if_pos (by omega)]
          simp only [tariff_Price.j0]
          rw [if_neg (by simp)]
          unfold tariff_until.f
          rw [if_pos ⟨hg, by omega, by omega⟩, Option.bind_some, if_pos ⟨hg, by omega, by omega⟩, Option.bind_some]
          have b1 := totalP_bd hg b (by omega)
          have b2 := totalP_bd hg a (by omega)
          rw [show wrap64 (totalP l b - totalP l a) = totalP l b - totalP l a by unfold wrap64; omega]
  · rw [if_neg hg, if_neg (by omega), if_neg hg]

/-- The band of round m of Change's loop: past the last band the next day's first one follows. -/
def chI (n m : Nat) : Nat := if m < n then m else m - n
def chD (n m : Nat) : Nat := if m < n then 0 else 1
theorem chI_lt {n m : Nat} (h : m < n) : chI n m = m := if_pos h
theorem chI_ge {n m : Nat} (h : n ≤ m) : chI n m = m - n := if_neg (by omega)
theorem chD_lt {n m : Nat} (h : m < n) : chD n m = 0 := if_pos h
theorem chD_ge {n m : Nat} (h : n ≤ m) : chD n m = 1 := if_neg (by omega)
theorem chI_bd {n m : Nat} (h : m < n + n) : chI n m < n := by
  by_cases hm : m < n
  · rw [chI_lt hm]; exact hm
  · rw [chI_ge (by omega)]; omega
theorem chD_bd (n m : Nat) : chD n m ≤ 1 := by
  by_cases hm : m < n
  · rw [chD_lt hm]; omega
  · rw [chD_ge (by omega)]; omega
theorem chI_add (n i : Nat) : chI n (i + n) = i := by rw [chI_ge (by omega)]; omega
theorem change_l0 {l : List S42} (hg : good l = true) (x : Int) (hx : 0 ≤ x) (hx2 : x ≤ 1099511627776) (b : Nat) (hb : upTo (x % 86400) l = b + 1) (r : Int) (hr : r = rateAt l (x % 86400)) :
    ∀ (d j k : Nat), l.length - j = d → d < k → j ≤ l.length →
    (∀ m, b < m → m ≤ b + j → (rd_T42 l (chI l.length m)).f1 = r) →
    ∃ nx ok, tariff_Change.l0 k 0 r (l.length : Int) (chI l.length (b + j)) (x - x % 86400 + (chD l.length (b + j) : Int) * 86400) (l.length : Int) (j : Int) l = some (nx, ok, 0) ∧ ChangeIs l x nx ok ∧ nx ≤ x + 86400 := by
  have hbl : b < l.length := by have := upTo_le (x % 86400) l; omega
  have hl24 := (good_len hg).2
  have hst : ∀ i : Nat, i < l.length → ((rd_T42 l i).f0 ≤ x % 86400 ↔ i ≤ b) := fun i hi => by have := good_upTo hg (x % 86400) i hi; omega
  have hrb : (rd_T42 l b).f1 = r := by rw [hr, rateAt_eq hg _ (by omega), hb]; rfl
  intro d
  induction d with
  | zero =>
    intro j k hd hk hj hI
    obtain ⟨k, rfl⟩ : ∃ m, k = m + 1 := ⟨k - 1, by omega⟩
    simp only [tariff_Change.l0]
    rw [if_neg (by omega)]
    refine ⟨0, false, rfl, change_none hg x (fun i hi => ?_), by omega⟩
    by_cases hib : i ≤ b
    · by_cases he : i = b
      · subst he; rw [hrb, hr]
      · have := hI (i + l.length) (by omega) (by omega)
        rw [← hr, ← this]
        rw [chI_add]
    · have := hI i (by omega) (by omega)
      rw [← hr, ← this]
      rw [chI_lt hi]
  | succ d ih =>
    intro j k hd hk hj hI
    obtain ⟨k, rfl⟩ : ∃ m, k = m + 1 := ⟨k - 1, by omega⟩
    have hjl : j < l.length := by omega
    have hmx : b + j + 1 ≤ b + l.length := by omega
    -- the band of this round
    have hmi : chI l.length (b + j + 1) < l.length := chI_bd (by omega)
    have hfi := good_at hg _ hmi
    have hnext : ∀ d' i' : Nat, d' < 2 → i' < l.length → x < startT l x d' i' → startT l x d' i' < startT l x (chD l.length (b + j + 1)) (chI l.length (b + j + 1)) → (rd_T42 l i').f1 = rateAt l (x % 86400) := by
      intro d' i' hd' hi' h1 h2
      rw [← hr]
      have g1 := good_at hg i' hi'
      have g2 := hst i' hi'
      unfold startT at h1 h2
      by_cases h0 : d' = 0
      · subst h0
        have hib : b < i' := by omega
        have : i' ≤ b + j := by
          refine Nat.le_of_not_lt fun hlt => ?_
          by_cases hm : b + j + 1 < l.length
          · have ee : chI l.length (b + j + 1) = b + j + 1 ∧ chD l.length (b + j + 1) = 0 := ⟨chI_lt hm, chD_lt hm⟩
            rw [ee.1, ee.2] at h2
            by_cases heq : i' = b + j + 1
            · subst heq; omega
            · have := good_lt hg (b + j + 1) i' hi' (by omega); omega
          · omega
        have := hI i' hib this
        rw [← this]
        rw [chI_lt hi']
      · have h1' : d' = 1 := by omega
        subst h1'
        by_cases hm : b + j + 1 < l.length
        · have ee : chD l.length (b + j + 1) = 0 := chD_lt hm
          rw [ee] at h2
          omega
        · have ee : chI l.length (b + j + 1) = b + j + 1 - l.length ∧ chD l.length (b + j + 1) = 1 := ⟨chI_ge (by omega), chD_ge (by omega)⟩
          rw [ee.1, ee.2] at h2
          have hlt : i' < b + j + 1 - l.length := by
            refine Nat.lt_of_not_le fun hle => ?_
            by_cases heq : i' = b + j + 1 - l.length
            · subst heq; omega
            · have := good_lt hg (b + j + 1 - l.length) i' hi' (by omega); omega
          have := hI (i' + l.length) (by omega) (by omega)
          rw [← this]
          rw [chI_add]
    have hbehind : x < startT l x (chD l.length (b + j + 1)) (chI l.length (b + j + 1)) ∧ startT l x (chD l.length (b + j + 1)) (chI l.length (b + j + 1)) ≤ x + 86400 := by
      have g2 := hst _ hmi
      unfold startT
      by_cases hm : b + j + 1 < l.length
      · have ee : chI l.length (b + j + 1) = b + j + 1 ∧ chD l.length (b + j + 1) = 0 := ⟨chI_lt hm, chD_lt hm⟩
        rw [ee.1] at g2 hfi
        rw [ee.1, ee.2]
        omega
      · have ee : chI l.length (b + j + 1) = b + j + 1 - l.length ∧ chD l.length (b + j + 1) = 1 := ⟨chI_ge (by omega), chD_ge (by omega)⟩
        rw [ee.1] at g2 hfi
        rw [ee.1, ee.2]
        omega
    have hstep : ∀ m, b < m → m ≤ b + (j + 1) → (rd_T42 l (chI l.length (b + j + 1))).f1 = r → (rd_T42 l (chI l.length m)).f1 = r := by
      intro m h1 h2 h3
      by_cases he : m = b + j + 1
      · subst he; exact h3
      · exact hI m h1 (by omega)
    simp only [tariff_Change.l0]
    rw [if_pos (by omega), show wrap64 ((j : Int) + 1) = ((j + 1 : Nat) : Int) by unfold wrap64; omega]
    by_cases hwr : chI l.length (b + j) + 1 = l.length
    · -- the next day begins
      have hbj : b + j + 1 = l.length := by
        by_cases hm : b + j < l.length
        · rw [chI_lt hm] at hwr; exact hwr
        · rw [chI_ge (by omega)] at hwr; omega
      have ee : chI l.length (b + j + 1) = 0 ∧ chD l.length (b + j + 1) = 1 := ⟨by rw [chI_ge (by omega)]; omega, chD_ge (by omega)⟩
      have e0 : chD l.length (b + j) = 0 := chD_lt (by omega)
      rw [show wrap64 ((chI l.length (b + j) : Int) + 1) = (l.length : Int) by unfold wrap64; omega, if_pos rfl, if_pos (by omega), e0]
      rw [show wrap64 (x - x % 86400 + ((0 : Nat) : Int) * 86400 + 86400) = x - x % 86400 + ((1 : Nat) : Int) * 86400 by unfold wrap64; omega]
      rw [ee.1] at hfi
      rw [ee.1, ee.2] at hnext hbehind
      by_cases hf : (rd_T42 l 0).f1 = r
      · rw [if_pos hf]
        have := ih (j + 1) k (by omega) (by omega) (by omega) (fun m h1 h2 => hstep m h1 h2 (by rw [ee.1]; exact hf))
        rw [show b + (j + 1) = b + j + 1 by omega, ee.1, ee.2] at this
        exact this
      · rw [if_neg hf]
        rw [show wrap64 (x - x % 86400 + ((1 : Nat) : Int) * 86400 + (rd_T42 l 0).f0) = startT l x 1 0 by
          unfold startT
          rw [show ((0 : Nat) : Int) = 0 from rfl] at hfi ⊢
          unfold wrap64; omega]
        exact ⟨_, true, rfl, change_found hg x hx 1 0 (by omega) (by omega) hbehind.1 (by rw [← hr]; exact hf) hnext, hbehind.2⟩
    · have ei : chI l.length (b + j + 1) = chI l.length (b + j) + 1 ∧ chD l.length (b + j + 1) = chD l.length (b + j) := by
        by_cases hm : b + j + 1 < l.length
        · rw [chI_lt hm, chD_lt hm, chI_lt (by omega), chD_lt (by omega)]
          exact ⟨rfl, rfl⟩
        · by_cases hm2 : b + j < l.length
          · rw [chI_lt hm2] at hwr; omega
          · rw [chI_ge (by omega), chD_ge (by omega), chI_ge (by omega), chD_ge (by omega)]
            exact ⟨by omega, rfl⟩
      have hlt : chI l.length (b + j) < l.length := chI_bd (by omega)
      rw [show wrap64 ((chI l.length (b + j) : Int) + 1) = ((chI l.length (b + j + 1) : Nat) : Int) by rw [ei.1]; unfold wrap64; omega, if_neg (by omega), if_pos (by omega), if_pos (by omega), ← ei.2]
      have hd1 : chD l.length (b + j + 1) ≤ 1 := chD_bd _ _
      by_cases hf : (rd_T42 l (chI l.length (b + j + 1))).f1 = r
      · rw [if_pos hf]
        exact ih (j + 1) k (by omega) (by omega) (by omega) (fun m h1 h2 => hstep m h1 h2 hf)
      · rw [if_neg hf]
        rw [show wrap64 (x - x % 86400 + (chD l.length (b + j + 1) : Int) * 86400 + (rd_T42 l (chI l.length (b + j + 1))).f0) = startT l x (chD l.length (b + j + 1)) (chI l.length (b + j + 1)) by unfold startT wrap64; omega]
        exact ⟨_, true, rfl, change_found hg x hx _ _ (by omega) hmi hbehind.1 (by rw [← hr]; exact hf) hnext, hbehind.2⟩
theorem change_yes {l : List S42} (hg : good l = true) (x : Int) (hx : 0 ≤ x) (hx2 : x ≤ 1099511627776) (k : Nat) (hk : 60 ≤ k) : ∃ nx ok, tariff_Change.f k l x = some (nx, ok, 0) ∧ ChangeIs l x nx ok ∧ nx ≤ x + 86400 := by
  unfold tariff_Change.f
  rw [rate_is l x k (by omega), if_pos hg, if_pos ⟨hx, hx2⟩, Option.bind_some, if_pos rfl, band_is hg x hx, Option.bind_some]
  have h1 := good_upTo_pos hg (x % 86400) (by omega)
  have h2 := upTo_le (x % 86400) l
  obtain ⟨b, hb⟩ : ∃ b, upTo (x % 86400) l = b + 1 := ⟨upTo (x % 86400) l - 1, by omega⟩
  have := change_l0 hg x hx hx2 b hb (rateAt l (x % 86400)) rfl l.length 0 k (by omega) (by have := (good_len hg).2; omega) (by omega) (fun m h1 h2 => by omega)
  have e1 : chI l.length (b + 0) = b := chI_lt (by omega)
  have e2 : chD l.length (b + 0) = 0 := chD_lt (by omega)
  rw [e1, e2] at this
  rw [hb, tmod_day x hx]
  rw [show ((b + 1 : Nat) : Int) - 1 = (b : Int) by omega, show wrap64 (x - x % 86400) = x - x % 86400 + ((0 : Nat) : Int) * 86400 by unfold wrap64; omega]
  exact this
theorem change_no (l : List S42) (x : Int) (k : Nat) (hk : 60 ≤ k) (h : ¬ (good l = true ∧ 0 ≤ x ∧ x ≤ 1099511627776)) : tariff_Change.f k l x = some (0, false, if good l = true then 1 else 260) := by
  unfold tariff_Change.f
  rw [rate_is l x k (by omega), Option.bind_some]
  by_cases hg : good l = true
  · rw [if_pos hg, if_neg (fun hx => h ⟨hg, hx⟩), if_neg (by omega), if_pos hg]
  · rw [if_neg hg, if_neg (by omega), if_neg hg]
theorem price_ok {l : List S42} (hg : good l = true) (a b : Int) (h0 : 0 ≤ a) (h1 : a ≤ b) (h2 : b ≤ 1099511627776) (k : Nat) (hk : 25 ≤ k) : tariff_Price.f k l a b = some (totalP l b - totalP l a, 0) := by
  rw [price_is l a b k hk, if_pos hg, if_pos ⟨h0, h1, h2⟩]
theorem price_no (l : List S42) (a b : Int) (h : ¬ (good l = true ∧ 0 ≤ a ∧ a ≤ b ∧ b ≤ 1099511627776)) (k : Nat) (hk : 25 ≤ k) : ∃ e, tariff_Price.f k l a b = some (0, e) ∧ e ≠ 0 := by
  rw [price_is l a b k hk]
  by_cases hg : good l = true
  · rw [if_pos hg, if_neg (fun hx => h ⟨hg, hx⟩)]
    exact ⟨1, rfl, by omega⟩
  · rw [if_neg hg]
    exact ⟨260, rfl, by omega⟩
theorem rate_ok {l : List S42} (hg : good l = true) (x : Int) (h0 : 0 ≤ x) (h1 : x ≤ 1099511627776) (k : Nat) (hk : 25 ≤ k) : tariff_Rate.f k l x = some (rateAt l (x % 86400), 0) := by
  rw [rate_is l x k hk, if_pos hg, if_pos ⟨h0, h1⟩]
theorem afford_ok {l : List S42} (hg : good l = true) (a u m : Int) (h0 : 0 ≤ a) (h1 : a ≤ 1099511627776) (h2 : 0 ≤ u) (h3 : 0 ≤ m) (h4 : m ≤ 1099511627776 - a) : tariff_Afford.f l a u m = some ((affN l a u m.toNat : Int), 0) := by
  unfold tariff_Afford.f
  rw [if_pos hg, if_pos ⟨h0, h1, h2, h3, h4⟩]
theorem afford_no (l : List S42) (a u m : Int) (h : ¬ (good l = true ∧ 0 ≤ a ∧ a ≤ 1099511627776 ∧ 0 ≤ u ∧ 0 ≤ m ∧ m ≤ 1099511627776 - a)) : ∃ e, tariff_Afford.f l a u m = some (0, e) ∧ e ≠ 0 := by
  unfold tariff_Afford.f
  by_cases hg : good l = true
  · rw [if_pos hg, if_neg (fun hx => h ⟨hg, hx⟩)]
    exact ⟨1, rfl, by omega⟩
  · rw [if_neg hg]
    exact ⟨260, rfl, by omega⟩
end Go.Proofs.Ytldpacphackdjaa.Print
