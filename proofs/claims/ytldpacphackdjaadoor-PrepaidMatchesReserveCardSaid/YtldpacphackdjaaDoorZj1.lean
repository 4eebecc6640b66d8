/- Plain facts on sorted lists of holds: what filters by the call leave; the list with a call's hold put in, told by filters. No conditions beyond a valid account. -/
import Derived.Test.YtldpacphackdjaaDoorZa6
namespace Go.Proofs.YtldpacphackdjaaDoor.Print
open Go.RowKit Go.Proofs.YtldpacphackdjaaDoorW.PrintWords Go.Proofs.YtldpacphackdjaaDoorW.PrintLast Go.Proofs.YtldpacphackdjaaDoorW.PrintMore
set_option linter.unusedVariables false
set_option linter.unusedSimpArgs false

theorem drop_above {l : List S54} (h : hFrom 0 l = true) (ref : Int) : ∀ x ∈ l.drop (placeH ref l), ref ≤ x.f0 := by
  intro x hx
  obtain ⟨j, hj, e⟩ := List.getElem_of_mem hx
  rw [List.length_drop] at hj
  rw [List.getElem_drop] at e
  have h2 := mt (placeH_at ref l 0 h (placeH ref l + j) (by omega)).1 (by omega)
  rw [rdH_is l _ (by omega), e] at h2
  omega
theorem filter_lt {l : List S54} (h : hFrom 0 l = true) (ref : Int) : (l.filter fun x => decide (x.f0 < ref)) = l.take (placeH ref l) := by
  have e := congrArg (List.filter fun x : S54 => decide (x.f0 < ref)) (List.take_append_drop (placeH ref l) l)
  rw [List.filter_append] at e
  rw [← e, List.filter_eq_self.2 (fun x hx => by simpa using take_below h ref x hx), List.filter_eq_nil_iff.2 (fun x hx => by have := drop_above h ref x hx; simp; omega), List.append_nil]
theorem filter_gt {l : List S54} (h : hFrom 0 l = true) (ref : Int) : (l.filter fun x => decide (x.f0 > ref)) = if foundH ref l = true then l.drop (placeH ref l + 1) else l.drop (placeH ref l) := by
  have e := congrArg (List.filter fun x : S54 => decide (x.f0 > ref)) (List.take_append_drop (placeH ref l) l)
  rw [List.filter_append] at e
  rw [← e, List.filter_eq_nil_iff.2 (fun x hx => by have := take_below h ref x hx; simp; omega), List.nil_append]
  cases hf : foundH ref l with
  | true =>
    have hi := found_lt hf
    rw [if_pos rfl, dropH_at l _ hi, List.filter_cons_of_neg (by have := found_at hf; simp; omega), List.filter_eq_self.2 (fun x hx => by
      have h1 := hFrom_above _ _ (hFrom_split h _ hi).2.2 x hx
      have := found_at hf
      simp; omega)]
  | false =>
    rw [if_neg (by simp), List.filter_eq_self.2 (fun x hx => by
      have h1 := drop_above h ref x hx
      have h2 : x.f0 ≠ ref := fun e2 => by
        have := (found_mem h ref).2 ⟨x, List.mem_of_mem_drop hx, e2⟩
        rw [hf] at this
        cases this
      simp; omega)]
theorem filter_ne {l : List S54} (h : hFrom 0 l = true) (ref : Int) (hf : foundH ref l = true) : (l.filter fun x => !decide (x.f0 = ref)) = dropH (placeH ref l) l := by
  have hi := found_lt hf
  have e := congrArg (List.filter fun x : S54 => !decide (x.f0 = ref)) (split_at l _ hi)
  rw [List.filter_append, List.filter_cons_of_neg (by have := found_at hf; simp; omega)] at e
  rw [e, List.filter_eq_self.2 (fun x hx => by have := take_below h ref x hx; simp; omega), List.filter_eq_self.2 (fun x hx => by
    have h1 := hFrom_above _ _ (hFrom_split h _ hi).2.2 x hx
    have := found_at hf
    simp; omega)]
  rfl
theorem drop_put (l : List S54) (i : Nat) (hi : i ≤ l.length) (x : S54) : (l.take i ++ x :: l.drop i).drop (i + 1) = l.drop i := by
  have h1 : (l.take i).length = i := by simp [hi]
  rw [List.drop_append, List.drop_of_length_le (show (l.take i).length ≤ i + 1 by omega), h1, show i + 1 - i = 1 by omega]
  rfl
theorem put_is {l : List S54} (h : hFrom 0 l = true) (b : Int) (tl : List S70) (ref now : Int) :
    ((l.filter fun x => decide (x.f0 < ref)) ++ (⟨ref, unH ref now l + cost b l tl ref now, stH ref now l + secs b l tl ref now⟩ : S54) :: l.filter fun x => decide (x.f0 > ref)) = putH b l tl ref now := by
  rw [filter_lt h, filter_gt h]
  unfold putH
  cases hf : foundH ref l with
  | true =>
    rw [(at_found hf).1, List.set_eq_take_append_cons_drop, if_pos (found_lt hf), if_pos rfl]
  | false =>
    have hle := placeH_le ref l
    rw [(at_new hf).1, if_neg (by simp), List.set_eq_take_append_cons_drop, if_pos (by rw [length_put l _ hle]; omega)]
    congr 1
    · rw [List.take_append_of_le_length (by simp; omega), List.take_take, Nat.min_self]
    · rw [drop_put l _ hle]
end Go.Proofs.YtldpacphackdjaaDoor.Print
