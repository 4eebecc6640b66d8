/- Plain definitions on lists of bands: what a valid tariff is, which band a second belongs to, what the seconds from 0 to a time cost, and how many seconds are affordable. No conditions: nothing is proved here but decidability. -/
import Derived.Test.YtldpacphackdjaaK0
namespace Go.Proofs.Ytldpacphackdjaa.Print
open Go.RowKit
set_option linter.unusedVariables false

/-- The bands from one on are in order and in range; `m` is the least start that the next one may have. -/
def goodFrom : Int → List S42 → Bool
  | _, [] => true
  | m, b :: t => (decide (m ≤ b.f0) && (decide (b.f0 ≤ 86399) && (decide (0 ≤ b.f1) && decide (b.f1 ≤ 1000000)))) && goodFrom (b.f0 + 1) t
/-- A valid list of bands. -/
def good : List S42 → Bool
  | [] => false
  | b :: t => decide (b.f0 = 0) && (goodFrom 0 (b :: t) && decide ((b :: t).length ≤ 24))
/-- How many bands start at a second or before it. -/
def upTo (s : Int) : List S42 → Nat
  | [] => 0
  | b :: t => if b.f0 ≤ s then upTo s t + 1 else upTo s t
/-- What the first n seconds of a day cost, by the bands from the last to the first. -/
def firstR : List S42 → Int → Int
  | [], _ => 0
  | b :: t, n => if b.f0 < n then (n - b.f0) * b.f1 + firstR t b.f0 else firstR t n
def first (l : List S42) (n : Int) : Int := firstR l.reverse n
/-- What the seconds from 0 to a time cost. -/
def totalP (l : List S42) (x : Int) : Int := x / 86400 * first l 86400 + first l (x % 86400)
/-- How many of the first m seconds behind `a` are affordable one after the other. -/
def affN (l : List S42) (a u : Int) : Nat → Nat
  | 0 => 0
  | m + 1 => if affN l a u m = m ∧ totalP l (a + (m : Int) + 1) - totalP l a ≤ u then m + 1 else affN l a u m

def tariff_band.f (l : List S42) (s : Int) : Option Int := if good l = true ∧ 0 ≤ s ∧ s ≤ 86399 then some ((upTo s l : Int) - 1) else none
def tariff_until.f (l : List S42) (x : Int) : Option Int := if good l = true ∧ 0 ≤ x ∧ x ≤ 1099511627776 then some (totalP l x) else none
def tariff_Afford.f (l : List S42) (a u m : Int) : Option (Int × Int) :=
  if good l = true then
    if 0 ≤ a ∧ a ≤ 1099511627776 ∧ 0 ≤ u ∧ 0 ≤ m ∧ m ≤ 1099511627776 - a then some ((affN l a u m.toNat : Int), 0) else some (0, 1)
  else some (0, 260)

theorem goodFrom_at : ∀ (l : List S42) (m : Int), goodFrom m l = true → ∀ j, j < l.length → m + (j : Int) ≤ (rd_T42 l j).f0 ∧ (rd_T42 l j).f0 ≤ 86399 ∧ 0 ≤ (rd_T42 l j).f1 ∧ (rd_T42 l j).f1 ≤ 1000000
  | [], _, _, j, hj => absurd hj (by simp)
  | b :: t, m, h, j, hj => by
    simp only [goodFrom, Bool.and_eq_true, decide_eq_true_eq] at h
    obtain ⟨⟨h1, h2, h3, h4⟩, h5⟩ := h
    cases j with
    | zero => exact ⟨by simpa [rd_T42] using h1, by simpa [rd_T42] using h2, by simpa [rd_T42] using h3, by simpa [rd_T42] using h4⟩
    | succ j =>
      obtain ⟨g1, g2⟩ := goodFrom_at t (b.f0 + 1) h5 j (by simpa using hj)
      have e : rd_T42 (b :: t) ((j + 1 : Nat) : Int) = rd_T42 t (j : Int) := by simp [rd_T42, show ((j : Int) + 1).toNat = j + 1 by omega]
      rw [e]
      exact ⟨by omega, g2⟩
theorem good_at {l : List S42} (h : good l = true) (j : Nat) (hj : j < l.length) : (j : Int) ≤ (rd_T42 l j).f0 ∧ (rd_T42 l j).f0 ≤ 86399 ∧ 0 ≤ (rd_T42 l j).f1 ∧ (rd_T42 l j).f1 ≤ 1000000 := by
  cases l with
  | nil => simp [good] at h
  | cons b t =>
    simp only [good, Bool.and_eq_true, decide_eq_true_eq] at h
    have := goodFrom_at _ _ h.2.1 j hj
    exact ⟨by omega, this.2⟩
theorem good_len {l : List S42} (h : good l = true) : 1 ≤ l.length ∧ l.length ≤ 24 := by
  cases l with
  | nil => simp [good] at h
  | cons b t =>
    simp only [good, Bool.and_eq_true, decide_eq_true_eq] at h
    exact ⟨by simp, h.2.2⟩
theorem good_head {l : List S42} (h : good l = true) : (rd_T42 l 0).f0 = 0 := by
  cases l with
  | nil => simp [good] at h
  | cons b t =>
    simp only [good, Bool.and_eq_true, decide_eq_true_eq] at h
    simpa [rd_T42] using h.1
/-- The place at which the starts pass a second. -/
theorem upTo_le (s : Int) : ∀ l : List S42, upTo s l ≤ l.length
  | [] => Nat.le_refl _
  | b :: t => by
    have := upTo_le s t
    simp only [upTo, List.length_cons]
    split <;> omega
theorem goodFrom_none (s : Int) : ∀ (l : List S42) (m : Int), goodFrom m l = true → s < m → upTo s l = 0
  | [], _, _, _ => rfl
  | b :: t, m, h, hs => by
    simp only [goodFrom, Bool.and_eq_true, decide_eq_true_eq] at h
    simp only [upTo]
    rw [if_neg (by omega)]
    exact goodFrom_none s t _ h.2 (by omega)
theorem goodFrom_upTo (s : Int) : ∀ (l : List S42) (m : Int), goodFrom m l = true → ∀ j, j < l.length → ((rd_T42 l j).f0 ≤ s ↔ j < upTo s l)
  | [], _, _, j, hj => absurd hj (by simp)
  | b :: t, m, h, j, hj => by
    have h0 := h
    simp only [goodFrom, Bool.and_eq_true, decide_eq_true_eq] at h
    obtain ⟨_, h5⟩ := h
    by_cases hb : b.f0 ≤ s
    · simp only [upTo]
      rw [if_pos hb]
      cases j with
      | zero => simpa [rd_T42] using hb
      | succ j =>
        have := goodFrom_upTo s t _ h5 j (by simpa using hj)
        have e : rd_T42 (b :: t) ((j + 1 : Nat) : Int) = rd_T42 t (j : Int) := by simp [rd_T42, show ((j : Int) + 1).toNat = j + 1 by omega]
        rw [e, this]
        omega
    · have hz : upTo s (b :: t) = 0 := by
        simp only [upTo]
        rw [if_neg hb]
        exact goodFrom_none s t _ h5 (by omega)
      rw [hz]
      cases j with
      | zero => simpa [rd_T42] using hb
      | succ j =>
        have := goodFrom_at t _ h5 j (by simpa using hj)
        have e : rd_T42 (b :: t) ((j + 1 : Nat) : Int) = rd_T42 t (j : Int) := by simp [rd_T42, show ((j : Int) + 1).toNat = j + 1 by omega]
        rw [e]
        constructor <;> intro <;> omega
theorem good_upTo {l : List S42} (h : good l = true) (s : Int) (j : Nat) (hj : j < l.length) : (rd_T42 l j).f0 ≤ s ↔ j < upTo s l := by
  cases l with
  | nil => simp [good] at h
  | cons b t =>
    simp only [good, Bool.and_eq_true, decide_eq_true_eq] at h
    exact goodFrom_upTo s _ _ h.2.1 j hj
theorem good_upTo_pos {l : List S42} (h : good l = true) (s : Int) (hs : 0 ≤ s) : 1 ≤ upTo s l := by
  have h1 := good_len h
  have h2 := (good_upTo h s 0 (by omega)).1 (by have := good_head h; simpa [this] using hs)
  omega
theorem goodFrom_step : ∀ (l : List S42) (m : Int), goodFrom m l = true → ∀ j, j + 1 < l.length → (rd_T42 l j).f0 < (rd_T42 l ((j + 1 : Nat) : Int)).f0
  | [], _, _, j, hj => absurd hj (by simp)
  | b :: t, m, h, j, hj => by
    simp only [goodFrom, Bool.and_eq_true, decide_eq_true_eq] at h
    obtain ⟨_, h5⟩ := h
    have e : ∀ j : Nat, rd_T42 (b :: t) ((j + 1 : Nat) : Int) = rd_T42 t (j : Int) := fun j => by simp [rd_T42, show ((j : Int) + 1).toNat = j + 1 by omega]
    rw [e]
    cases j with
    | zero =>
      have := goodFrom_at t _ h5 0 (by simpa using hj)
      have e0 : rd_T42 (b :: t) ((0 : Nat) : Int) = b := by simp [rd_T42]
      rw [e0]
      omega
    | succ j =>
      rw [e]
      exact goodFrom_step t _ h5 j (by simpa using hj)
theorem goodStep {l : List S42} (h : good l = true) (j : Nat) (hj : j + 1 < l.length) : (rd_T42 l j).f0 < (rd_T42 l ((j + 1 : Nat) : Int)).f0 := by
  cases l with
  | nil => simp [good] at h
  | cons b t =>
    simp only [good, Bool.and_eq_true, decide_eq_true_eq] at h
    exact goodFrom_step _ _ h.2.1 j hj
end Go.Proofs.Ytldpacphackdjaa.Print
