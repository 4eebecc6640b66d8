/- What the program's functions on timers answer, in plain words, and the comparisons of the reference. Conditions: enough rounds, and identifiers that are integers. -/
import Derived.Test.YtldpacphackdjaaPTim
import Derived.Test.YtldpacphackdjaaHTSet
import Derived.Test.YtldpacphackdjaaF38
import Derived.Test.YtldpacphackdjaaFA
import Derived.Test.YtldpacphackdjaaF47
import Derived.Test.YtldpacphackdjaaFB
namespace Go.Proofs.Ytldpacphackdjaa.Print
open Go.RowKit Go.Proofs.YtldpacphackdjaaW.PrintWords Go.Proofs.YtldpacphackdjaaW.PrintLast Go.Proofs.YtldpacphackdjaaW.PrintMore
set_option linter.unusedVariables false
set_option linter.unusedSimpArgs false

instance : DecidableEq S64 := fun a b => if h : a.f0 = b.f0 ∧ a.f1 = b.f1 then isTrue (by cases a; cases b; simp at h; rw [h.1, h.2]) else isFalse (fun e => h (by rw [e]; exact ⟨rfl, rfl⟩))
theorem w1 {j : Nat} (h : j < 1000000000000) : wrap64 ((j : Int) + 1) = ((j + 1 : Nat) : Int) := by unfold wrap64; omega
/-- What Check answers. -/
def chk (l : List S64) : Int := if l.length > 1024 then 2 else if qok l = true then 0 else 1
theorem chk_zero {l : List S64} : chk l = 0 ↔ (l.length ≤ 1024 ∧ Ok l) := by
  unfold chk
  rw [← qok_iff]
  by_cases h : l.length > 1024
  · rw [if_pos h]; constructor
    · intro h2; omega
    · intro h2; omega
  · rw [if_neg h]
    by_cases h2 : qok l = true
    · rw [if_pos h2]; exact ⟨fun _ => ⟨by omega, h2⟩, fun _ => rfl⟩
    · rw [if_neg h2]; exact ⟨fun h3 => by omega, fun h3 => absurd h3.2 h2⟩
theorem qcheck_is {l : List S64} (h : idsOk l = true) : timers_Check.f l = some (chk l) := by
  unfold timers_Check.f chk
  rw [if_pos h]
theorem drop_at (l : List S64) (j : Nat) (hj : j < l.length) : l.drop j = rd_T64 l (j : Int) :: l.drop (j + 1) := by
  rw [rd_is l j hj, List.drop_eq_getElem_cons hj]
theorem cancel_is {l : List S64} (h : idsOk l = true) (id : Int) : timers_Cancel.f l id = some (if chk l = 0 then (without id l, 0) else ([], chk l)) := by
  unfold timers_Cancel.f
  rw [qcheck_is h, Option.bind_some]
  by_cases hc : chk l = 0
  · rw [if_pos hc, if_pos hc]; rfl
  · rw [if_neg hc, if_neg hc]
theorem set_is {l : List S64} (h : idsOk l = true) (id at_ : Int) : timers_Set.f l id at_ = some (if chk l = 0 then (if timeOk at_ = true then (if (without id l).length = 1024 then ([], 2) else (ins ⟨id, at_⟩ (without id l), 0)) else ([], 1)) else ([], chk l)) := by
  unfold timers_Set.f
  rw [cancel_is h, Option.bind_some]
  by_cases hc : chk l = 0
  · rw [if_pos hc, if_pos hc, if_pos rfl]
    by_cases ht : timeOk at_ = true
    · rw [if_pos ht, if_pos ht]
      by_cases hn : (without id l).length = 1024
      · rw [if_pos hn, if_pos hn]
      · rw [if_neg hn, if_neg hn]
    · rw [if_neg ht, if_neg ht]
  · rw [if_neg hc, if_neg hc, if_neg hc]
theorem next_is {l : List S64} (h : idsOk l = true) : timers_Next.f l = some (if chk l = 0 then (if l.length = 0 then (0, false) else ((rd_T64 l 0).f1, true)) else (0, false)) := by
  unfold timers_Next.f
  rw [qcheck_is h, Option.bind_some]
  by_cases hc : chk l = 0
  · rw [if_pos hc, if_pos hc]
    by_cases hn : l.length = 0
    · rw [if_pos (by omega), if_pos hn]
    · rw [if_neg (by omega), if_pos (by omega), if_neg hn]
  · rw [if_neg hc, if_neg hc]
/-- Who expires, and who stays. -/
def due (now : Int) (l : List S64) : List S64 := l.filter fun x => decide (x.f1 ≤ now)
def later (now : Int) (l : List S64) : List S64 := l.filter fun x => !(decide (x.f1 ≤ now))
theorem expire_is {l : List S64} (h : idsOk l = true) (now : Int) : timers_Expire.f l now = some (if chk l = 0 then (if timeOk now = true then (later now l, (due now l).map (·.f0), 0) else ([], [], 1)) else ([], [], chk l)) := by
  unfold timers_Expire.f
  rw [qcheck_is h, Option.bind_some]
  by_cases hc : chk l = 0
  · rw [if_pos hc, if_pos hc]
    by_cases ht : timeOk now = true
    · rw [if_pos ht, if_pos ht]; rfl
    · rw [if_neg ht, if_neg ht]
  · rw [if_neg hc, if_neg hc]
theorem same_l0 (a b : List S64) (hab : a.length = b.length) (hl : a.length ≤ 2000) : ∀ (d j k : Nat), a.length - j = d → d + 1 ≤ k → crossbarref10_Same.l0 k (j : Int) a b = some (decide (a.drop j = b.drop j)) := by
  intro d
  induction d with
  | zero =>
    intro j k hd hk
    obtain ⟨k, rfl⟩ : ∃ i, k = i + 1 := ⟨k - 1, by omega⟩
    simp only [crossbarref10_Same.l0]
    rw [if_neg (by omega), List.drop_of_length_le (by omega), List.drop_of_length_le (by omega)]
    simp
  | succ d ih =>
    intro j k hd hk
    obtain ⟨k, rfl⟩ : ∃ i, k = i + 1 := ⟨k - 1, by omega⟩
    have hj : j < a.length := by omega
    simp only [crossbarref10_Same.l0]
    rw [if_pos (by omega), if_pos (by omega), if_pos (by omega), w1 (by omega), drop_at a j hj, drop_at b j (by omega), ih (j + 1) k (by omega) (by omega)]
    generalize rd_T64 a (j : Int) = x
    generalize rd_T64 b (j : Int) = y
    obtain ⟨x0, x1⟩ := x
    obtain ⟨y0, y1⟩ := y
    by_cases h0 : x0 = y0
    · by_cases h1 : x1 = y1
      · subst h0; subst h1; simp
      · simp [h0, h1]
    · simp [h0]
theorem same_is (a b : List S64) (ha : a.length ≤ 2000) (k : Nat) (hk : 3000 ≤ k) : crossbarref10_Same.f k a b = some (decide (a = b)) := by
  unfold crossbarref10_Same.f
  by_cases h : a.length = b.length
  · rw [if_pos (by omega)]
    have := same_l0 a b h ha a.length 0 k (by omega) (by omega)
    rw [show ((0 : Nat) : Int) = 0 from rfl] at this
    rw [this]
    simp
  · rw [if_neg (by omega)]
    have : ¬ a = b := fun e => h (by rw [e])
    simp [this]
theorem rdI_is (l : List Int) (j : Nat) (hj : j < l.length) : rd l (j : Int) = l[j] := by simp [rd, List.getD_eq_getElem?_getD, List.getElem?_eq_getElem hj]
theorem ints_l0 (a b : List Int) (hab : a.length = b.length) (hl : a.length ≤ 2000) : ∀ (d j k : Nat), a.length - j = d → d + 1 ≤ k → crossbarref10_Ints.l0 k a b (j : Int) = some (decide (a.drop j = b.drop j)) := by
  intro d
  induction d with
  | zero =>
    intro j k hd hk
    obtain ⟨k, rfl⟩ : ∃ i, k = i + 1 := ⟨k - 1, by omega⟩
    simp only [crossbarref10_Ints.l0]
    rw [if_neg (by omega), List.drop_of_length_le (by omega), List.drop_of_length_le (by omega)]
    simp
  | succ d ih =>
    intro j k hd hk
    obtain ⟨k, rfl⟩ : ∃ i, k = i + 1 := ⟨k - 1, by omega⟩
    have hj : j < a.length := by omega
    simp only [crossbarref10_Ints.l0]
    rw [if_pos (by omega), if_pos (by omega), if_pos (by omega), w1 (by omega), rdI_is a j hj, rdI_is b j (by omega), List.drop_eq_getElem_cons hj, List.drop_eq_getElem_cons (show j < b.length by omega), ih (j + 1) k (by omega) (by omega)]
    generalize a.drop (j + 1) = u
    generalize b.drop (j + 1) = v
    generalize a[j] = x
    generalize b[j] = y
    by_cases h0 : x = y
    · rw [if_pos h0, h0]; simp
    · rw [if_neg h0]; simp [h0]
theorem ints_is (a b : List Int) (ha : a.length ≤ 2000) (k : Nat) (hk : 3000 ≤ k) : crossbarref10_Ints.f k a b = some (decide (a = b)) := by
  unfold crossbarref10_Ints.f
  by_cases h : a.length = b.length
  · rw [if_pos (by omega)]
    have := ints_l0 a b h ha a.length 0 k (by omega) (by omega)
    rw [show ((0 : Nat) : Int) = 0 from rfl] at this
    rw [this]
    simp
  · rw [if_neg (by omega)]
    have : ¬ a = b := fun e => h (by rw [e])
    simp [this]
theorem has_l0 (l : List Int) (x : Int) (hl : l.length ≤ 2000) : ∀ (d j k : Nat), l.length - j = d → d + 1 ≤ k → crossbarlaw10_has.l0 k l x (j : Int) = some (decide (x ∈ l.drop j)) := by
  intro d
  induction d with
  | zero =>
    intro j k hd hk
    obtain ⟨k, rfl⟩ : ∃ i, k = i + 1 := ⟨k - 1, by omega⟩
    simp only [crossbarlaw10_has.l0]
    rw [if_neg (by omega), List.drop_of_length_le (by omega)]
    simp
  | succ d ih =>
    intro j k hd hk
    obtain ⟨k, rfl⟩ : ∃ i, k = i + 1 := ⟨k - 1, by omega⟩
    have hj : j < l.length := by omega
    simp only [crossbarlaw10_has.l0]
    rw [if_pos (by omega), if_pos (by omega), w1 (by omega), rdI_is l j hj, List.drop_eq_getElem_cons hj, ih (j + 1) k (by omega) (by omega)]
    generalize l.drop (j + 1) = u
    generalize l[j] = y
    by_cases h0 : y = x
    · rw [if_pos h0]; simp [h0]
    · rw [if_neg h0]; simp; exact fun e => absurd e.symm h0
theorem has_is (l : List Int) (x : Int) (hl : l.length ≤ 2000) (k : Nat) (hk : 3000 ≤ k) : crossbarlaw10_has.f k l x = some (decide (x ∈ l)) := by
  unfold crossbarlaw10_has.f
  have := has_l0 l x hl l.length 0 k (by omega) (by omega)
  rw [show ((0 : Nat) : Int) = 0 from rfl] at this
  rw [this]
  simp
theorem few10_is (l : List S64) : crossbarref10_Few.f l = some (decide (l.length ≤ 1100)) := by
  unfold crossbarref10_Few.f
  congr 1
  rw [decide_eq_decide]
  omega
theorem idsOk_iff (l : List S64) : idsOk l = true ↔ ∀ x ∈ l, -9223372036854775808 ≤ x.f0 ∧ x.f0 ≤ 9223372036854775807 := by
  unfold idsOk
  rw [List.all_eq_true]
  simp
theorem idsOk_without {l : List S64} (h : idsOk l = true) (id : Int) : idsOk (without id l) = true := (idsOk_iff _).2 fun x hx => (idsOk_iff l).1 h x ((mem_without id l x).1 hx).1
theorem idsOk_filter {l : List S64} (h : idsOk l = true) (p : S64 → Bool) : idsOk (l.filter p) = true := (idsOk_iff _).2 fun x hx => (idsOk_iff l).1 h x (List.mem_filter.1 hx).1
theorem idsOk_ins {l : List S64} (h : idsOk l = true) {t : S64} (ht : -9223372036854775808 ≤ t.f0 ∧ t.f0 ≤ 9223372036854775807) : idsOk (ins t l) = true := (idsOk_iff _).2 fun x hx => by
  rcases (mem_ins t l x).1 hx with rfl | hx
  · exact ht
  · exact (idsOk_iff l).1 h x hx
theorem idsOk_nil : idsOk [] = true := rfl
end Go.Proofs.Ytldpacphackdjaa.Print
