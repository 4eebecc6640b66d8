/- What the printed functions of the tariff's reference answer, in plain words: the same as the program's. Conditions: enough rounds. -/
import Derived.Test.YtldpacphackdjaaPTarProg
import Derived.Test.YtldpacphackdjaaF23
import Derived.Test.YtldpacphackdjaaF25
import Derived.Test.YtldpacphackdjaaF29
import Derived.Test.YtldpacphackdjaaF31
import Derived.Test.YtldpacphackdjaaF21
namespace Go.Proofs.Ytldpacphackdjaa.Print
open Go.RowKit Go.Proofs.YtldpacphackdjaaW.PrintWords Go.Proofs.YtldpacphackdjaaW.PrintLast Go.Proofs.YtldpacphackdjaaW.PrintMore
set_option linter.unusedVariables false
set_option linter.unusedSimpArgs false

theorem rtime_is (x : Int) : crossbarref26_time.f x = some (decide (0 ≤ x ∧ x ≤ 1099511627776)) := by
  unfold crossbarref26_time.f
  by_cases h : x ≥ 0
  · rw [if_pos h]; simp [show (0 : Int) ≤ x from h]
  · rw [if_neg h]; simp [show ¬ (0 : Int) ≤ x from h]
/-- The bands from j on are in order and in range, told by their indices. -/
def okFrom (l : List S42) (j : Nat) : Prop := ∀ i : Nat, j ≤ i → i < l.length → 0 ≤ (rd_T42 l i).f0 ∧ (rd_T42 l i).f0 ≤ 86399 ∧ 0 ≤ (rd_T42 l i).f1 ∧ (rd_T42 l i).f1 ≤ 1000000 ∧ (0 < i → (rd_T42 l ((i - 1 : Nat) : Int)).f0 < (rd_T42 l i).f0)
noncomputable instance (l : List S42) (j : Nat) : Decidable (okFrom l j) := Classical.propDecidable _
theorem okFrom_succ (l : List S42) (j : Nat) (hj : j < l.length) : okFrom l j ↔ (0 ≤ (rd_T42 l j).f0 ∧ (rd_T42 l j).f0 ≤ 86399 ∧ 0 ≤ (rd_T42 l j).f1 ∧ (rd_T42 l j).f1 ≤ 1000000 ∧ (0 < j → (rd_T42 l ((j - 1 : Nat) : Int)).f0 < (rd_T42 l j).f0)) ∧ okFrom l (j + 1) := by
  constructor
  · intro h
    exact ⟨h j (Nat.le_refl _) hj, fun i h1 h2 => h i (by omega) h2⟩
  · rintro ⟨h1, h2⟩ i h3 h4
    by_cases he : i = j
    · subst he; exact h1
    · exact h2 i (by omega) h4
theorem rcheck_l0 (l : List S42) (hl : l.length ≤ 24) : ∀ (d k j : Nat), l.length - j = d → d < k → crossbarref26_Check.l0 k l (l.length : Int) (j : Int) l = some (if okFrom l j then 0 else 260) := by
  intro d
  induction d with
  | zero =>
    intro k j hd hk
    obtain ⟨k, rfl⟩ : ∃ m, k = m + 1 := ⟨k - 1, by omega⟩
    simp only [crossbarref26_Check.l0]
    rw [if_neg (by omega), if_pos (show okFrom l j from fun i h1 h2 => by omega)]
  | succ d ih =>
    intro k j hd hk
    obtain ⟨k, rfl⟩ : ∃ m, k = m + 1 := ⟨k - 1, by omega⟩
    have hj : j < l.length := by omega
    have hs := okFrom_succ l j hj
    simp only [crossbarref26_Check.l0]
    rw [if_pos (by omega), if_pos (by omega), if_pos (by omega), show wrap64 ((j : Int) + 1) = ((j + 1 : Nat) : Int) by unfold wrap64; omega, ih k (j + 1) (by omega) (by omega)]
    have no : ∀ (h : ¬ okFrom l j), (some 260 : Option Int) = some (if okFrom l j then 0 else 260) := fun h => by rw [if_neg h]
    by_cases c1 : (rd_T42 l j).f0 < 0
    · rw [if_pos c1]; exact no (fun h => by have := (hs.1 h).1.1; omega)
    rw [if_neg c1]
    by_cases c2 : (rd_T42 l j).f0 ≥ 86400
    · rw [if_pos c2]; exact no (fun h => by have := (hs.1 h).1.2.1; omega)
    rw [if_neg c2]
    by_cases c3 : (j : Int) > 0
    · rw [if_pos c3, show wrap64 ((j : Int) - 1) = ((j - 1 : Nat) : Int) by unfold wrap64; omega, if_pos (by omega), if_pos (by omega)]
      by_cases c4 : (rd_T42 l j).f0 ≤ (rd_T42 l ((j - 1 : Nat) : Int)).f0
      · rw [if_pos c4]; exact no (fun h => by have := (hs.1 h).1.2.2.2.2 (by omega); omega)
      rw [if_neg c4]
      by_cases c5 : (rd_T42 l j).f1 < 0
      · rw [if_pos c5]; exact no (fun h => by have := (hs.1 h).1.2.2.1; omega)
      rw [if_neg c5]
      by_cases c6 : (rd_T42 l j).f1 > 1000000
      · rw [if_pos c6]; exact no (fun h => by have := (hs.1 h).1.2.2.2.1; omega)
      rw [if_neg c6]
      congr 1
      by_cases h : okFrom l (j + 1)
      · rw [if_pos h, if_pos (hs.2 ⟨⟨by omega, by omega, by omega, by omega, fun _ => by omega⟩, h⟩)]
      · rw [if_neg h, if_neg (fun h2 => h (hs.1 h2).2)]
    · rw [if_neg c3]
      by_cases c5 : (rd_T42 l j).f1 < 0
      · rw [if_pos c5]; exact no (fun h => by have := (hs.1 h).1.2.2.1; omega)
      rw [if_neg c5]
      by_cases c6 : (rd_T42 l j).f1 > 1000000
      · rw [if_pos c6]; exact no (fun h => by have := (hs.1 h).1.2.2.2.1; omega)
      rw [if_neg c6]
      congr 1
      by_cases h : okFrom l (j + 1)
      · rw [if_pos h, if_pos (hs.2 ⟨⟨by omega, by omega, by omega, by omega, fun h0 => by omega⟩, h⟩)]
      · rw [if_neg h, if_neg (fun h2 => h (hs.1 h2).2)]
theorem goodFrom_of : ∀ (l : List S42) (m : Int), (∀ i : Nat, i < l.length → 0 ≤ (rd_T42 l i).f0 ∧ (rd_T42 l i).f0 ≤ 86399 ∧ 0 ≤ (rd_T42 l i).f1 ∧ (rd_T42 l i).f1 ≤ 1000000 ∧ (0 < i → (rd_T42 l ((i - 1 : Nat) : Int)).f0 < (rd_T42 l i).f0)) → (0 < l.length → m ≤ (rd_T42 l 0).f0) → goodFrom m l = true
  | [], _, _, _ => rfl
  | b :: t, m, h, hm => by
    have e : ∀ j : Nat, rd_T42 (b :: t) ((j + 1 : Nat) : Int) = rd_T42 t (j : Int) := fun j => by simp [rd_T42, show ((j : Int) + 1).toNat = j + 1 by omega]
    have e0 : rd_T42 (b :: t) ((0 : Nat) : Int) = b := by simp [rd_T42]
    have e00 : rd_T42 (b :: t) 0 = b := by simp [rd_T42]
    have h0 := h 0 (by simp)
    have hm0 := hm (by simp)
    rw [e0] at h0
    rw [e00] at hm0
    simp only [goodFrom, Bool.and_eq_true, decide_eq_true_eq]
    refine ⟨⟨hm0, h0.2.1, h0.2.2.1, h0.2.2.2.1⟩, goodFrom_of t _ (fun i hi => ?_) (fun ht => ?_)⟩
    · have hi' := h (i + 1) (by simpa using hi)
      rw [e] at hi'
      refine ⟨hi'.1, hi'.2.1, hi'.2.2.1, hi'.2.2.2.1, fun h0 => ?_⟩
      have := hi'.2.2.2.2 (by omega)
      rw [show i + 1 - 1 = (i - 1) + 1 by omega, e] at this
      exact this
    · have h1 := (h 1 (by simpa using ht)).2.2.2.2 (by omega)
      rw [show (1 : Nat) - 1 = 0 from rfl, e0, show (1 : Nat) = 0 + 1 from rfl, e] at h1
      rw [show ((0 : Nat) : Int) = 0 from rfl] at h1
      omega
theorem good_iff (l : List S42) : good l = true ↔ (1 ≤ l.length ∧ l.length ≤ 24 ∧ (rd_T42 l 0).f0 = 0 ∧ okFrom l 0) := by
  constructor
  · intro h
    have h1 := good_len h
    refine ⟨h1.1, h1.2, good_head h, fun i _ hi => ?_⟩
    have h2 := good_at h i hi
    refine ⟨by omega, h2.2.1, h2.2.2.1, h2.2.2.2, fun h0 => ?_⟩
    exact good_lt h (i - 1) i hi (by omega)
  · rintro ⟨h1, h2, h3, h4⟩
    cases l with
    | nil => simp at h1
    | cons b t =>
      simp only [good, Bool.and_eq_true, decide_eq_true_eq]
      exact ⟨by simpa [rd_T42] using h3, goodFrom_of _ _ (fun i hi => h4 i (Nat.zero_le _) hi) (fun _ => by omega), h2⟩
theorem rcheck_is (l : List S42) (k : Nat) (hk : 30 ≤ k) : crossbarref26_Check.f k l = some (if good l = true then 0 else 260) := by
  obtain ⟨k, rfl⟩ : ∃ m, k = m + 1 := ⟨k - 1, by omega⟩
  have hb := good_iff l
  unfold crossbarref26_Check.f
  by_cases c1 : (l.length : Int) < 1
  · rw [if_pos c1, if_neg (fun h => by have := (hb.1 h).1; omega)]
    simp only [crossbarref26_Check.j0]; rw [if_pos trivial]
  rw [if_neg c1]
  by_cases c2 : (l.length : Int) > 24
  · rw [if_pos c2, if_neg (fun h => by have := (hb.1 h).2.1; omega)]
    simp only [crossbarref26_Check.j0]; rw [if_pos trivial]
  rw [if_neg c2, if_pos (by omega)]
  simp only [crossbarref26_Check.j0]
  by_cases c3 : (rd_T42 l 0).f0 = 0
  · rw [if_neg (by simp [c3])]
    have := rcheck_l0 l (by omega) l.length k 0 (by omega) (by omega)
    rw [show ((0 : Nat) : Int) = 0 from rfl] at this
    rw [this]
    congr 1
    by_cases h : okFrom l 0
    · rw [if_pos h, if_pos (hb.2 ⟨by omega, by omega, c3, h⟩)]
    · rw [if_neg h, if_neg (fun h2 => h (hb.1 h2).2.2.2)]
  · rw [if_pos (by simpa using c3), if_neg (fun h => c3 (hb.1 h).2.2.1)]

/-! ### The rate -/
theorem rat_l0 {l : List S42} (x : Int) (hx : 0 ≤ x) (hl : l.length ≤ 24) : ∀ (d k j : Nat), l.length - j = d → d < k → j ≤ l.length → crossbarref26_At.l0 k x (rateR (l.take j).reverse (x % 86400)) l (l.length : Int) (j : Int) = some (rateAt l (x % 86400)) := by
  intro d
  induction d with
  | zero =>
    intro k j hd hk hj
    obtain ⟨k, rfl⟩ : ∃ m, k = m + 1 := ⟨k - 1, by omega⟩
    simp only [crossbarref26_At.l0]
    rw [if_neg (by omega), List.take_of_length_le (by omega)]
    rfl
  | succ d ih =>
    intro k j hd hk hj
    obtain ⟨k, rfl⟩ : ∃ m, k = m + 1 := ⟨k - 1, by omega⟩
    simp only [crossbarref26_At.l0]
    have := ih k (j + 1) (by omega) (by omega) (by omega)
    rw [take_last l j (by omega)] at this
    simp only [rateR] at this
    rw [if_pos (by omega), if_pos (by omega), if_pos (by omega), show wrap64 ((j : Int) + 1) = ((j + 1 : Nat) : Int) by unfold wrap64; omega, tmod_day x hx]
    by_cases h : (rd_T42 l j).f0 ≤ x % 86400
    · rw [if_pos h] at this ⊢; exact this
    · rw [if_neg h] at this ⊢; exact this
theorem rat_is {l : List S42} (hg : good l = true) (x : Int) (hx : 0 ≤ x) (k : Nat) (hk : 30 ≤ k) : crossbarref26_At.f k l x = some (rateAt l (x % 86400)) := by
  have h := rat_l0 (l := l) x hx (good_len hg).2 l.length k 0 (by omega) (by have := (good_len hg).2; omega) (by omega)
  unfold crossbarref26_At.f
  exact h
theorem rrate_is (l : List S42) (x : Int) (k : Nat) (hk : 30 ≤ k) : crossbarref26_Rate.f k l x = some (if good l = true then (if 0 ≤ x ∧ x ≤ 1099511627776 then (rateAt l (x % 86400), 0) else (0, 1)) else (0, 260)) := by
  unfold crossbarref26_Rate.f
  rw [rcheck_is l k hk, Option.bind_some]
  by_cases hg : good l = true
  · rw [if_pos hg, if_pos rfl, if_pos hg, rtime_is, Option.bind_some]
    by_cases hx : 0 ≤ x ∧ x ≤ 1099511627776
    · rw [decide_eq_true hx, if_pos rfl, rat_is hg x hx.1 k hk, Option.bind_some, if_pos hx]
    · rw [decide_eq_false hx, if_neg (by simp), if_neg hx]
  · rw [if_neg hg, if_neg (by omega), if_neg hg]
end Go.Proofs.Ytldpacphackdjaa.Print
