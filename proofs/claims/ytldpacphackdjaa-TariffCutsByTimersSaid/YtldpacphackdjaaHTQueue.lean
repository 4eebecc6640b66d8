/- Plain definitions on lists of timers: what a valid queue is, and what compare answers. No conditions: nothing is proved here of a program but what the printed compare answers. -/
import Derived.Test.YtldpacphackdjaaK0
import Derived.Test.YtldpacphackdjaaFA
namespace Go.Proofs.Ytldpacphackdjaa.Print
open Go.RowKit Go.Proofs.YtldpacphackdjaaW.PrintWords Go.Proofs.YtldpacphackdjaaW.PrintLast Go.Proofs.YtldpacphackdjaaW.PrintMore
set_option linter.unusedVariables false

/-- a precedes b: earlier, or at the same time with a smaller identifier. -/
def prec (a b : S64) : Bool := decide (a.f1 < b.f1) || (decide (a.f1 = b.f1) && decide (a.f0 < b.f0))
def timeOk (n : Int) : Bool := decide (0 ≤ n) && decide (n ≤ 1099511627776)
/-- The timers from here on are valid, behind those with the identifiers `seen` and behind the timer `p`. -/
def qFrom : List Int → Option S64 → List S64 → Bool
  | _, _, [] => true
  | seen, p, t :: r => timeOk t.f1 && (!(seen.contains t.f0) && ((match p with | none => true | some q => prec q t) && qFrom (seen ++ [t.f0]) (some t) r))
def qok (l : List S64) : Bool := qFrom [] none l
/-- The identifiers are integers of 64 bits. -/
def idsOk (l : List S64) : Bool := l.all fun t => decide (-9223372036854775808 ≤ t.f0) && decide (t.f0 ≤ 9223372036854775807)
def timers_Check.f (l : List S64) : Option Int := if idsOk l = true then some (if l.length > 1024 then 2 else if qok l = true then 0 else 1) else none

theorem cmpInt_is (a b : Int) : cmp_Compare_int.f a b = some (if a < b then -1 else if a > b then 1 else 0) := by
  unfold cmp_Compare_int.f cmp_isNaN_int.f
  simp only [bne_self_eq_false, Option.bind_some, Bool.false_eq_true, if_false]
  split
  · rfl
  · split <;> rfl
theorem cmpOr_is (a b : Int) (k : Nat) (hk : 5 ≤ k) : cmp_Or_int.f k [a, b] = some (if a = 0 then b else a) := by
  obtain ⟨k, rfl⟩ : ∃ m, k = m + 4 := ⟨k - 4, by omega⟩
  have w0 : wrap64 (0 + 1) = 1 := by unfold wrap64; omega
  have w1 : wrap64 (1 + 1) = 2 := by unfold wrap64; omega
  unfold cmp_Or_int.f
  simp only [cmp_Or_int.l0, List.length_cons, List.length_nil]
  rw [if_pos (by decide), if_pos (by decide), if_pos (by decide)]
  by_cases ha : a = 0
  · rw [if_pos (by simpa [rd] using ha), if_pos ha, w0]
    rw [if_pos (by decide), if_pos (by decide), if_pos (by decide)]
    by_cases hb : b = 0
    · rw [if_pos (by simpa [rd] using hb), w1, if_neg (by decide), hb]
    · rw [if_neg (by simpa [rd] using hb)]
      simp [rd]
  · rw [if_neg (by simpa [rd] using ha), if_neg ha]
    simp [rd]
/-- What compare answers. -/
def cmpT (a b : S64) : Int := if a.f1 < b.f1 then -1 else if a.f1 > b.f1 then 1 else if a.f0 < b.f0 then -1 else if a.f0 > b.f0 then 1 else 0
theorem compare_is (a b : S64) (k : Nat) (hk : 5 ≤ k) : timers_compare.f k a.f0 a.f1 b.f0 b.f1 = some (cmpT a b) := by
  unfold timers_compare.f
  rw [cmpInt_is, Option.bind_some, cmpInt_is, Option.bind_some, cmpOr_is _ _ k hk, Option.bind_some]
  unfold cmpT
  congr 1
  by_cases h1 : a.f1 < b.f1
  · rw [if_pos h1, if_neg (by omega), if_pos h1]
  · rw [if_neg h1, if_neg h1]
    by_cases h2 : a.f1 > b.f1
    · rw [if_pos h2, if_neg (by omega), if_pos h2]
    · rw [if_neg h2, if_pos rfl, if_neg h2]
theorem cmpT_neg (a b : S64) : cmpT a b < 0 ↔ prec a b = true := by
  unfold cmpT prec
  simp only [Bool.or_eq_true, Bool.and_eq_true, decide_eq_true_eq]
  constructor
  · intro h
    split at h
    · exact .inl ‹_›
    · split at h
      · omega
      · split at h
        · exact .inr ⟨by omega, ‹_›⟩
        · split at h <;> omega
  · rintro (h | ⟨h1, h2⟩)
    · rw [if_pos h]; omega
    · rw [if_neg (by omega), if_neg (by omega), if_pos h2]; omega
theorem cmpT_bd (a b : S64) : -1 ≤ cmpT a b ∧ cmpT a b ≤ 1 := by
  unfold cmpT
  repeat' split
  all_goals omega
theorem tvalid_is (n : Int) : timers_valid.f n = some (timeOk n) := by
  unfold timers_valid.f timeOk
  by_cases h : n ≥ 0
  · rw [if_pos h]; simp [show (0 : Int) ≤ n from h]
  · rw [if_neg h]; simp [show ¬ (0 : Int) ≤ n from h]
/-- The queue's state of checking behind j timers. -/
theorem qFrom_step (l : List S64) (j : Nat) (hj : j < l.length) (p : Option S64) : qFrom ((l.take j).map (·.f0)) p (l.drop j) =
    (timeOk (rd_T64 l (j : Int)).f1 && (!(((l.take j).map (·.f0)).contains (rd_T64 l (j : Int)).f0) && ((match p with | none => true | some q => prec q (rd_T64 l (j : Int))) && qFrom ((l.take (j + 1)).map (·.f0)) (some (rd_T64 l (j : Int))) (l.drop (j + 1))))) := by
  have e : rd_T64 l (j : Int) = l[j] := by simp [rd_T64, List.getD_eq_getElem?_getD, List.getElem?_eq_getElem hj]
  rw [e, List.drop_eq_getElem_cons hj, List.take_succ_eq_append_getElem hj]
  simp only [qFrom, List.map_append, List.map_cons, List.map_nil]
theorem idsOk_at {l : List S64} (h : idsOk l = true) (j : Nat) (hj : j < l.length) : -9223372036854775808 ≤ (rd_T64 l (j : Int)).f0 ∧ (rd_T64 l (j : Int)).f0 ≤ 9223372036854775807 := by
  have e : rd_T64 l (j : Int) = l[j] := by simp [rd_T64, List.getD_eq_getElem?_getD, List.getElem?_eq_getElem hj]
  have := List.all_eq_true.1 h l[j] (List.getElem_mem hj)
  rw [e]
  simpa using this
/-- The state of checking behind j timers, as a number: what Check will answer. -/
def qRes (l : List S64) (j : Nat) : Int := if qFrom ((l.take j).map (·.f0)) (if j = 0 then none else some (rd_T64 l ((j - 1 : Nat) : Int))) (l.drop j) = true then 0 else 1
theorem qFrom_start (l : List S64) : qRes l 0 = if qok l = true then 0 else 1 := rfl
theorem qRes_end (l : List S64) : qRes l l.length = 0 := by simp [qRes, qFrom]
theorem qRes_time {l : List S64} {j : Nat} (hj : j < l.length) (h : timeOk (rd_T64 l (j : Int)).f1 = false) : qRes l j = 1 := by
  unfold qRes
  rw [qFrom_step l j hj, h]
  simp
theorem qRes_seen {l : List S64} {j : Nat} (hj : j < l.length) (h : ((l.take j).map (·.f0)).contains (rd_T64 l (j : Int)).f0 = true) : qRes l j = 1 := by
  unfold qRes
  rw [qFrom_step l j hj, h]
  simp
theorem qRes_prec {l : List S64} {j : Nat} (hj : j < l.length) (h0 : 0 < j) (h : prec (rd_T64 l ((j - 1 : Nat) : Int)) (rd_T64 l (j : Int)) = false) : qRes l j = 1 := by
  unfold qRes
  rw [qFrom_step l j hj, if_neg (show ¬ j = 0 by omega)]
  simp [h]
theorem qRes_next {l : List S64} {j : Nat} (hj : j < l.length) (h1 : timeOk (rd_T64 l (j : Int)).f1 = true) (h2 : ((l.take j).map (·.f0)).contains (rd_T64 l (j : Int)).f0 = false)
    (h3 : 0 < j → prec (rd_T64 l ((j - 1 : Nat) : Int)) (rd_T64 l (j : Int)) = true) : qRes l (j + 1) = qRes l j := by
  unfold qRes
  rw [qFrom_step l j hj, h1, h2, if_neg (show ¬ j + 1 = 0 by omega), show j + 1 - 1 = j from rfl]
  by_cases h0 : j = 0
  · subst h0; simp
  · rw [if_neg h0]
    simp only [h3 (by omega), Bool.not_false, Bool.true_and]
end Go.Proofs.Ytldpacphackdjaa.Print
