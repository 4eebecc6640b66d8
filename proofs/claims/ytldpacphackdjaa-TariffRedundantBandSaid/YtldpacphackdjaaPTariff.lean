/- Plain laws on tariffs: one second costs its rate, prices grow, and the affordable seconds are the greatest number that can be paid for. Conditions: a valid list of bands, times from 0 on. -/
import Derived.Test.YtldpacphackdjaaHGood
namespace Go.Proofs.Ytldpacphackdjaa.Print
open Go.RowKit
set_option linter.unusedVariables false

theorem firstR_nil (n : Int) : firstR [] n = 0 := rfl
theorem firstR_yes {b : S42} {n : Int} (t : List S42) (h : b.f0 < n) : firstR (b :: t) n = (n - b.f0) * b.f1 + firstR t b.f0 := by simp only [firstR]; rw [if_pos h]
theorem firstR_no {b : S42} {n : Int} (t : List S42) (h : ¬ b.f0 < n) : firstR (b :: t) n = firstR t n := by simp only [firstR]; rw [if_neg h]
theorem mul_bd (x y : Int) (h0 : 0 ≤ x) (h1 : 0 ≤ y) (h2 : y ≤ 1000000) : 0 ≤ x * y ∧ x * y ≤ x * 1000000 := ⟨Int.mul_nonneg h0 h1, Int.mul_le_mul_of_nonneg_left h2 h0⟩
/-- The rate of a second, by the bands from the last to the first. -/
def rateR : List S42 → Int → Int
  | [], _ => 0
  | b :: t, s => if b.f0 ≤ s then b.f1 else rateR t s
def rateAt (l : List S42) (s : Int) : Int := rateR l.reverse s
theorem firstR_succ (s : Int) : ∀ r : List S42, firstR r (s + 1) = firstR r s + rateR r s
  | [] => by simp [firstR, rateR]
  | b :: t => by
    simp only [rateR]
    by_cases h : b.f0 ≤ s
    · rw [if_pos h, firstR_yes t (show b.f0 < s + 1 by omega)]
      by_cases h2 : b.f0 < s
      · rw [firstR_yes t h2, show s + 1 - b.f0 = (s - b.f0) + 1 by omega, Int.add_mul, Int.one_mul]
        omega
      · rw [firstR_no t h2]
        obtain rfl : b.f0 = s := by omega
        rw [show b.f0 + 1 - b.f0 = 1 by omega, Int.one_mul]
        omega
    · rw [if_neg h, firstR_no t (by omega), firstR_no t (by omega)]
      exact firstR_succ s t
theorem first_succ (l : List S42) (s : Int) : first l (s + 1) = first l s + rateAt l s := firstR_succ s l.reverse
theorem firstR_zero : ∀ r : List S42, (∀ b ∈ r, 0 ≤ b.f0) → firstR r 0 = 0
  | [], _ => rfl
  | b :: t, h => by
    rw [firstR_no t (by have := h b (by simp); omega)]
    exact firstR_zero t fun x hx => h x (by simp [hx])
theorem firstR_bd : ∀ (r : List S42) (n : Int), (∀ b ∈ r, 0 ≤ b.f0 ∧ 0 ≤ b.f1 ∧ b.f1 ≤ 1000000) → 0 ≤ n → 0 ≤ firstR r n ∧ firstR r n ≤ n * 1000000
  | [], n, _, hn => by simp only [firstR]; omega
  | b :: t, n, h, hn => by
    obtain ⟨h0, h1, h2⟩ := h b (by simp)
    by_cases hlt : b.f0 < n
    · rw [firstR_yes _ hlt]
      obtain ⟨i0, i1⟩ := firstR_bd t b.f0 (fun x hx => h x (by simp [hx])) h0
      obtain ⟨m0, m1⟩ := mul_bd (n - b.f0) b.f1 (by omega) h1 h2
      have : (n - b.f0) * 1000000 + b.f0 * 1000000 = n * 1000000 := by omega
      omega
    · rw [firstR_no _ hlt]
      exact firstR_bd t n (fun x hx => h x (by simp [hx])) hn
theorem good_mem {l : List S42} (h : good l = true) : ∀ b ∈ l, 0 ≤ b.f0 ∧ b.f0 ≤ 86399 ∧ 0 ≤ b.f1 ∧ b.f1 ≤ 1000000 := by
  intro b hb
  obtain ⟨j, hj, rfl⟩ := List.getElem_of_mem hb
  have := good_at h j hj
  simp only [rd_T42, Int.toNat_natCast, List.getD_eq_getElem?_getD, List.getElem?_eq_getElem hj, Option.getD_some] at this
  omega
theorem first_bd {l : List S42} (h : good l = true) (n : Int) (hn : 0 ≤ n) : 0 ≤ first l n ∧ first l n ≤ n * 1000000 :=
  firstR_bd _ _ (fun b hb => by have := good_mem h b (by simpa using hb); omega) hn
theorem first_zero {l : List S42} (h : good l = true) : first l 0 = 0 := firstR_zero _ fun b hb => (good_mem h b (by simpa using hb)).1
theorem rateR_bd : ∀ (r : List S42) (s : Int), (∀ b ∈ r, 0 ≤ b.f1 ∧ b.f1 ≤ 1000000) → 0 ≤ rateR r s ∧ rateR r s ≤ 1000000
  | [], _, _ => by simp [rateR]
  | b :: t, s, h => by
    simp only [rateR]
    split
    · exact h b (by simp)
    · exact rateR_bd t s fun x hx => h x (by simp [hx])
theorem rateAt_bd {l : List S42} (h : good l = true) (s : Int) : 0 ≤ rateAt l s ∧ rateAt l s ≤ 1000000 := rateR_bd _ _ fun b hb => (good_mem h b (by simpa using hb)).2.2
/-- One second costs its rate. -/
theorem totalP_succ {l : List S42} (h : good l = true) (x : Int) (hx : 0 ≤ x) : totalP l (x + 1) = totalP l x + rateAt l (x % 86400) := by
  have h1 := first_succ l (x % 86400)
  unfold totalP
  by_cases hs : x % 86400 = 86399
  · have e1 : (x + 1) / 86400 = x / 86400 + 1 := by omega
    have e2 : (x + 1) % 86400 = 0 := by omega
    rw [e1, e2, first_zero h, Int.add_mul, Int.one_mul]
    rw [hs] at h1 ⊢
    have : first l (86399 + 1) = first l 86400 := by rw [show (86399 : Int) + 1 = 86400 by decide]
    omega
  · have e1 : (x + 1) / 86400 = x / 86400 := by omega
    have e2 : (x + 1) % 86400 = x % 86400 + 1 := by omega
    rw [e1, e2, h1]
    omega
theorem totalP_add {l : List S42} (h : good l = true) (x : Int) (hx : 0 ≤ x) : ∀ n : Nat, totalP l x ≤ totalP l (x + n) ∧ totalP l (x + n) ≤ totalP l x + n * 1000000
  | 0 => by simp
  | n + 1 => by
    have ih := totalP_add h x hx n
    have e : x + ((n + 1 : Nat) : Int) = (x + n) + 1 := by omega
    have := totalP_succ h (x + n) (by omega)
    have hb := rateAt_bd h ((x + n) % 86400)
    rw [e, this]
    omega
theorem totalP_mono {l : List S42} (h : good l = true) (x y : Int) (hx : 0 ≤ x) (hy : x ≤ y) : totalP l x ≤ totalP l y := by
  obtain ⟨n, rfl⟩ : ∃ n : Nat, y = x + n := ⟨(y - x).toNat, by omega⟩
  exact (totalP_add h x hx n).1
theorem totalP_bd {l : List S42} (h : good l = true) (x : Int) (hx : 0 ≤ x) : 0 ≤ totalP l x ∧ totalP l x ≤ x * 1000000 := by
  have z : totalP l 0 = 0 := by simp [totalP, first_zero h]
  have h1 := totalP_add h 0 (by omega) x.toNat
  rw [z] at h1
  have e : (0 : Int) + ((x.toNat : Nat) : Int) = x := by omega
  rw [e] at h1
  omega
/-- The affordable seconds. -/
theorem affN_le (l : List S42) (a u : Int) : ∀ m, affN l a u m ≤ m
  | 0 => Nat.le_refl _
  | m + 1 => by
    have := affN_le l a u m
    simp only [affN]
    split <;> omega
theorem affN_pays {l : List S42} (h : good l = true) (a u : Int) (ha : 0 ≤ a) (hu : 0 ≤ u) : ∀ m, totalP l (a + (affN l a u m : Int)) - totalP l a ≤ u
  | 0 => by simp [affN]; exact hu
  | m + 1 => by
    have ih := affN_pays h a u ha hu m
    simp only [affN]
    split
    · rename_i hc
      have e : a + ((m + 1 : Nat) : Int) = a + (m : Int) + 1 := by omega
      rw [e]
      exact hc.2
    · exact ih
theorem affN_max {l : List S42} (h : good l = true) (a u : Int) (ha : 0 ≤ a) : ∀ m, affN l a u m < m → u < totalP l (a + (affN l a u m : Int) + 1) - totalP l a
  | 0, hm => absurd hm (by simp)
  | m + 1, hm => by
    simp only [affN] at hm ⊢
    by_cases hc : affN l a u m = m ∧ totalP l (a + (m : Int) + 1) - totalP l a ≤ u
    · rw [if_pos hc] at hm
      exact absurd hm (by omega)
    · rw [if_neg hc] at hm ⊢
      by_cases he : affN l a u m = m
      · rw [he]
        have : ¬ totalP l (a + (m : Int) + 1) - totalP l a ≤ u := fun h => hc ⟨he, h⟩
        omega
      · exact affN_max h a u ha m (by have := affN_le l a u m; omega)
/-- j seconds more are too dear just where j is not below the number of affordable ones. -/
theorem affN_iff {l : List S42} (h : good l = true) (a u : Int) (ha : 0 ≤ a) (hu : 0 ≤ u) (m j : Nat) (hj : j < m) : u < totalP l (a + (j : Int) + 1) - totalP l a ↔ affN l a u m ≤ j := by
  constructor
  · intro hlt
    refine Nat.le_of_not_lt fun hc => ?_
    have h1 := affN_pays h a u ha hu m
    have h2 := totalP_mono h (a + (j : Int) + 1) (a + (affN l a u m : Int)) (by omega) (by omega)
    omega
  · intro hle
    have h1 := affN_max h a u ha m (by omega)
    have h2 := totalP_mono h (a + (affN l a u m : Int) + 1) (a + (j : Int) + 1) (by omega) (by omega)
    omega
/-- Whoever pays, and of whom one more is too dear or who is the limit, is the number of affordable seconds. -/
theorem affN_unique {l : List S42} (h : good l = true) (a u : Int) (ha : 0 ≤ a) (hu : 0 ≤ u) (m n : Nat) (hn : n ≤ m) (h1 : totalP l (a + (n : Int)) - totalP l a ≤ u) (h2 : n < m → u < totalP l (a + (n : Int) + 1) - totalP l a) : affN l a u m = n := by
  have k1 := affN_pays h a u ha hu m
  have k2 := affN_max h a u ha m
  have k3 := affN_le l a u m
  rcases Nat.lt_trichotomy (affN l a u m) n with hlt | he | hgt
  · have := k2 (by omega)
    have := totalP_mono h (a + (affN l a u m : Int) + 1) (a + (n : Int)) (by omega) (by omega)
    omega
  · exact he
  · have := h2 (by omega)
    have := totalP_mono h (a + (n : Int) + 1) (a + (affN l a u m : Int)) (by omega) (by omega)
    omega
/-! ### Bands by their index -/
theorem take_last (l : List S42) (k : Nat) (hk : k < l.length) : (l.take (k + 1)).reverse = rd_T42 l (k : Int) :: (l.take k).reverse := by
  rw [List.take_succ_eq_append_getElem hk]
  simp [rd_T42, List.getD_eq_getElem?_getD, List.getElem?_eq_getElem hk]
theorem rateR_take {l : List S42} (h : good l = true) (t : Int) : ∀ k, upTo t l ≤ k → k ≤ l.length → rateR (l.take k).reverse t = rateR (l.take (upTo t l)).reverse t := by
  intro k
  induction k with
  | zero => intro h1 _; rw [show upTo t l = 0 by omega]
  | succ k ih =>
    intro h1 h2
    by_cases he : upTo t l = k + 1
    · rw [he]
    · rw [take_last l k (by omega)]
      have := good_upTo h t k (by omega)
      simp only [rateR]
      rw [if_neg (by omega)]
      exact ih (by omega) (by omega)
theorem rateAt_eq {l : List S42} (h : good l = true) (t : Int) (ht : 0 ≤ t) : rateAt l t = (rd_T42 l ((upTo t l - 1 : Nat) : Int)).f1 := by
  have h1 := good_upTo_pos h t ht
  have h2 := upTo_le t l
  have h3 := rateR_take h t l.length h2 (Nat.le_refl _)
  rw [List.take_length] at h3
  unfold rateAt
  obtain ⟨c, hc⟩ : ∃ c, upTo t l = c + 1 := ⟨upTo t l - 1, by omega⟩
  rw [h3, hc, take_last l c (by omega)]
  have h4 := good_upTo h t c (by omega)
  simp only [rateR]
  rw [if_pos (by omega)]
  rfl
theorem good_lt {l : List S42} (h : good l = true) (i j : Nat) (hj : j < l.length) (hij : i < j) : (rd_T42 l i).f0 < (rd_T42 l j).f0 := by
  induction j with
  | zero => omega
  | succ j ih =>
    have := goodStep h j (by omega)
    by_cases he : i = j
    · subst he; exact this
    · have := ih (by omega) (by omega); omega
theorem upTo_start {l : List S42} (h : good l = true) (i : Nat) (hi : i < l.length) : upTo (rd_T42 l i).f0 l = i + 1 := by
  have h1 := (good_upTo h (rd_T42 l i).f0 i hi).1 (Int.le_refl _)
  have h2 := upTo_le (rd_T42 l i).f0 l
  by_cases he : i + 1 < l.length
  · have h3 := good_upTo h (rd_T42 l i).f0 (i + 1) he
    have h4 := goodStep h i he
    omega
  · omega
theorem rateAt_start {l : List S42} (h : good l = true) (i : Nat) (hi : i < l.length) : rateAt l (rd_T42 l i).f0 = (rd_T42 l i).f1 := by
  rw [rateAt_eq h _ (by have := good_at h i hi; omega), upTo_start h i hi]
  rfl
/-- Two seconds with no start between them are in the same band. -/
theorem upTo_mono {l : List S42} (h : good l = true) (s t : Int) (hst : s ≤ t) : upTo s l ≤ upTo t l := by
  refine Nat.le_of_not_lt fun hlt => ?_
  have h1 := upTo_le s l
  have h2 := (good_upTo h s (upTo t l) (by omega)).2 hlt
  have h3 := (good_upTo h t (upTo t l) (by omega)).1 (by omega)
  omega

/-! ### The next change -/
/-- nx is the first time behind x at which the rate is another one; without one, ok is false. -/
def ChangeIs (l : List S42) (x nx : Int) (ok : Bool) : Prop :=
  (ok = true ∧ x < nx ∧ rateAt l (nx % 86400) ≠ rateAt l (x % 86400) ∧ ∀ y, x ≤ y → y < nx → rateAt l (y % 86400) = rateAt l (x % 86400)) ∨
  (ok = false ∧ nx = 0 ∧ ∀ y, rateAt l (y % 86400) = rateAt l (x % 86400))
theorem ChangeIs.unique {l : List S42} {x n1 n2 : Int} {o1 o2 : Bool} (h1 : ChangeIs l x n1 o1) (h2 : ChangeIs l x n2 o2) : n1 = n2 ∧ o1 = o2 := by
  rcases h1 with ⟨rfl, a1, b1, c1⟩ | ⟨rfl, rfl, c1⟩ <;> rcases h2 with ⟨rfl, a2, b2, c2⟩ | ⟨rfl, rfl, c2⟩
  · refine ⟨?_, rfl⟩
    rcases Int.lt_trichotomy n1 n2 with h | h | h
    · exact absurd (c2 n1 (by omega) h) b1
    · exact h
    · exact absurd (c1 n2 (by omega) h) b2
  · exact absurd (c2 n1) b1
  · exact absurd (c1 n2) b2
  · exact ⟨rfl, rfl⟩
/-- The time at which band i begins on day d behind x's own day. -/
def startT (l : List S42) (x : Int) (d i : Nat) : Int := x - x % 86400 + (d : Int) * 86400 + (rd_T42 l i).f0
/-- Where all bands that begin behind x and before T have x's rate, all seconds from x to T have it. -/
theorem constant_to {l : List S42} (h : good l = true) (x T : Int) (hx : 0 ≤ x) (hT : T ≤ x - x % 86400 + 172800)
    (hc : ∀ d i : Nat, d < 2 → i < l.length → x < startT l x d i → startT l x d i < T → (rd_T42 l i).f1 = rateAt l (x % 86400)) :
    ∀ y, x ≤ y → y < T → rateAt l (y % 86400) = rateAt l (x % 86400) := by
  intro y h1 h2
  have h3 := good_upTo_pos h (y % 86400) (by omega)
  have h4 := upTo_le (y % 86400) l
  obtain ⟨c, hc0⟩ : ∃ c, upTo (y % 86400) l = c + 1 := ⟨upTo (y % 86400) l - 1, by omega⟩
  have hcl : c < l.length := by omega
  have h5 := (good_upTo h (y % 86400) c hcl).2 (by omega)
  have h6 := good_at h c hcl
  have hr : rateAt l (y % 86400) = (rd_T42 l c).f1 := by rw [rateAt_eq h _ (by omega), hc0]; rfl
  rw [hr]
  by_cases hday : y < x - x % 86400 + 86400
  · by_cases hb : x < startT l x 0 c
    · exact hc 0 c (by omega) hcl hb (by unfold startT; omega)
    · unfold startT at hb
      have e : upTo (x % 86400) l = c + 1 := by
        have m1 := upTo_mono h (x % 86400) (y % 86400) (by omega)
        have m2 := (good_upTo h (x % 86400) c hcl).1 (by omega)
        omega
      rw [rateAt_eq h (x % 86400) (by omega), e]
      rfl
  · exact hc 1 c (by omega) hcl (by unfold startT; omega) (by unfold startT; omega)
/-- Where all bands have one rate, so has every time. -/
theorem constant_all {l : List S42} (h : good l = true) (r : Int) (hc : ∀ i : Nat, i < l.length → (rd_T42 l i).f1 = r) (y : Int) : rateAt l (y % 86400) = r := by
  have h3 := good_upTo_pos h (y % 86400) (by omega)
  have h4 := upTo_le (y % 86400) l
  rw [rateAt_eq h _ (by omega)]
  exact hc _ (by omega)
theorem startT_mod {l : List S42} (h : good l = true) (x : Int) (d i : Nat) (hi : i < l.length) : startT l x d i % 86400 = (rd_T42 l i).f0 := by
  have := good_at h i hi
  unfold startT
  omega
/-- A band that begins behind x with another rate, all that begin between being of x's rate, is the next change. -/
theorem change_found {l : List S42} (h : good l = true) (x : Int) (hx : 0 ≤ x) (d i : Nat) (hd : d < 2) (hi : i < l.length) (h1 : x < startT l x d i) (h2 : (rd_T42 l i).f1 ≠ rateAt l (x % 86400))
    (hc : ∀ d' i' : Nat, d' < 2 → i' < l.length → x < startT l x d' i' → startT l x d' i' < startT l x d i → (rd_T42 l i').f1 = rateAt l (x % 86400)) : ChangeIs l x (startT l x d i) true := by
  refine .inl ⟨rfl, h1, ?_, constant_to h x _ hx ?_ hc⟩
  · rw [startT_mod h x d i hi, rateAt_start h i hi]
    exact h2
  · have := good_at h i hi
    unfold startT
    omega
theorem change_none {l : List S42} (h : good l = true) (x : Int) (hc : ∀ i : Nat, i < l.length → (rd_T42 l i).f1 = rateAt l (x % 86400)) : ChangeIs l x 0 false :=
  .inr ⟨rfl, rfl, constant_all h _ hc⟩
/-- Where the rate is r from x on, for n seconds, they cost n times r. -/
theorem totalP_flat {l : List S42} (h : good l = true) (x : Int) (hx : 0 ≤ x) (r : Int) : ∀ n : Nat, (∀ y, x ≤ y → y < x + n → rateAt l (y % 86400) = r) → totalP l (x + n) - totalP l x = n * r
  | 0, _ => by simp
  | n + 1, hc => by
    have ih := totalP_flat h x hx r n (fun y h1 h2 => hc y h1 (by omega))
    have e : x + ((n + 1 : Nat) : Int) = (x + n) + 1 := by omega
    rw [e, totalP_succ h (x + n) (by omega), hc (x + n) (by omega) (by omega), show ((n + 1 : Nat) : Int) * r = n * r + r by rw [Int.natCast_add, Int.add_mul]; simp]
    omega
theorem mod_days (x d : Int) : (x + d * 86400) % 86400 = x % 86400 := by omega
theorem totalP_days (l : List S42) (x d : Int) : totalP l (x + d * 86400) = totalP l x + d * first l 86400 := by
  unfold totalP
  rw [mod_days, show (x + d * 86400) / 86400 = x / 86400 + d by omega, Int.add_mul]
  omega
theorem ChangeIs.days {l : List S42} {x nx : Int} {ok : Bool} (h : ChangeIs l x nx ok) (d : Int) : ChangeIs l (x + d * 86400) (if ok = true then nx + d * 86400 else 0) ok := by
  rcases h with ⟨rfl, a, b, c⟩ | ⟨rfl, rfl, c⟩
  · rw [if_pos rfl]
    refine .inl ⟨rfl, by omega, by rw [mod_days, mod_days]; exact b, fun y h1 h2 => ?_⟩
    have := c (y - d * 86400) (by omega) (by omega)
    rw [mod_days, ← this]
    congr 1
    omega
  · rw [if_neg (by simp)]
    exact .inr ⟨rfl, rfl, fun y => by rw [mod_days]; exact c y⟩
end Go.Proofs.Ytldpacphackdjaa.Print
