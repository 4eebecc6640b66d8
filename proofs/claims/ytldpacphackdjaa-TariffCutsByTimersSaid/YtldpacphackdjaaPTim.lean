/- Plain lists of timers: what a valid queue is, where a timer is set, what is cancelled and what expires. No conditions: nothing is proved here of a program. -/
import Derived.Test.YtldpacphackdjaaHTQueue
namespace Go.Proofs.Ytldpacphackdjaa.Print
open Go.RowKit Go.Proofs.YtldpacphackdjaaW.PrintWords Go.Proofs.YtldpacphackdjaaW.PrintLast Go.Proofs.YtldpacphackdjaaW.PrintMore
set_option linter.unusedVariables false
set_option linter.unusedSimpArgs false

theorem prec_iff (a b : S64) : prec a b = true ↔ a.f1 < b.f1 ∨ (a.f1 = b.f1 ∧ a.f0 < b.f0) := by
  unfold prec
  simp only [Bool.or_eq_true, Bool.and_eq_true, decide_eq_true_eq]
theorem prec_trans {a b c : S64} (h1 : prec a b = true) (h2 : prec b c = true) : prec a c = true := by
  rw [prec_iff] at *
  omega
theorem prec_irrefl (a : S64) : prec a a = false := by
  rw [Bool.eq_false_iff, ne_eq, prec_iff]
  omega
theorem prec_asymm {a b : S64} (h : prec a b = true) : prec b a = false := by
  rw [Bool.eq_false_iff, ne_eq]
  rw [prec_iff] at *
  omega
theorem prec_total {a b : S64} (h : a.f0 ≠ b.f0) : prec a b = !prec b a := by
  cases h1 : prec b a with
  | true => rw [prec_asymm h1]; rfl
  | false =>
    rw [Bool.eq_false_iff, ne_eq, prec_iff] at h1
    rw [Bool.not_false, prec_iff]
    omega
/-- A valid queue, but for its length. -/
def Ok (l : List S64) : Prop := (∀ x ∈ l, timeOk x.f1 = true) ∧ (l.map (·.f0)).Nodup ∧ l.Pairwise (fun a b => prec a b = true)
theorem qFrom_iff : ∀ (l : List S64) (seen : List Int) (p : Option S64), qFrom seen p l = true ↔
    ((∀ x ∈ l, timeOk x.f1 = true) ∧ (∀ x ∈ l, ¬ x.f0 ∈ seen) ∧ (l.map (·.f0)).Nodup ∧ (∀ q, p = some q → ∀ x ∈ l, prec q x = true) ∧ l.Pairwise (fun a b => prec a b = true))
  | [], seen, p => by simp [qFrom]
  | t :: r, seen, p => by
    have ih := qFrom_iff r (seen ++ [t.f0]) (some t)
    simp only [qFrom, Bool.and_eq_true, Bool.not_eq_true']
    rw [ih]
    constructor
    · rintro ⟨h1, h2, h3, g1, g2, g3, g4, g5⟩
      have h2' : ¬ t.f0 ∈ seen := fun h => by simp [h] at h2
      have g4' := g4 t rfl
      refine ⟨?_, ?_, ?_, ?_, ?_⟩
      · intro x hx
        rcases List.mem_cons.1 hx with rfl | hx
        · exact h1
        · exact g1 x hx
      · intro x hx
        rcases List.mem_cons.1 hx with rfl | hx
        · exact h2'
        · exact fun h => g2 x hx (List.mem_append_left _ h)
      · rw [List.map_cons, List.nodup_cons]
        refine ⟨fun h => ?_, g3⟩
        obtain ⟨x, hx, he⟩ := List.mem_map.1 h
        exact g2 x hx (by rw [he]; exact List.mem_append_right _ (List.mem_singleton.2 rfl))
      · rintro q rfl x hx
        rcases List.mem_cons.1 hx with rfl | hx
        · exact h3
        · exact prec_trans h3 (g4' x hx)
      · exact List.pairwise_cons.2 ⟨g4', g5⟩
    · rintro ⟨h1, h2, h3, h4, h5⟩
      rw [List.map_cons, List.nodup_cons] at h3
      rw [List.pairwise_cons] at h5
      refine ⟨h1 t List.mem_cons_self, by simpa using h2 t List.mem_cons_self, ?_, fun x hx => h1 x (List.mem_cons_of_mem _ hx), fun x hx h => ?_, h3.2, ?_, h5.2⟩
      · cases p with
        | none => rfl
        | some q => exact h4 q rfl t List.mem_cons_self
      · rcases List.mem_append.1 h with h | h
        · exact h2 x (List.mem_cons_of_mem _ hx) h
        · exact h3.1 (List.mem_map.2 ⟨x, hx, by simpa using h⟩)
      · rintro q h x hx
        obtain rfl := Option.some.inj h
        exact h5.1 x hx
theorem qok_iff (l : List S64) : qok l = true ↔ Ok l := by
  unfold qok Ok
  rw [qFrom_iff]
  constructor
  · rintro ⟨h1, _, h3, _, h5⟩
    exact ⟨h1, h3, h5⟩
  · rintro ⟨h1, h3, h5⟩
    exact ⟨h1, by simp, h3, by simp, h5⟩
theorem Ok.sub {l m : List S64} (h : Ok l) (hs : m.Sublist l) : Ok m :=
  ⟨fun x hx => h.1 x (hs.subset hx), h.2.1.sublist (hs.map _), h.2.2.sublist hs⟩
theorem Ok.filter {l : List S64} (h : Ok l) (p : S64 → Bool) : Ok (l.filter p) := h.sub List.filter_sublist
theorem Ok.nil : Ok [] := ⟨by simp, by simp, by simp⟩

/-- How many timers precede t. -/
def place (t : S64) (l : List S64) : Nat := (l.filter fun x => prec x t).length
def ins (t : S64) (l : List S64) : List S64 := l.take (place t l) ++ t :: l.drop (place t l)
theorem place_le (t : S64) (l : List S64) : place t l ≤ l.length := List.length_filter_le ..
theorem ins_length (t : S64) (l : List S64) : (ins t l).length = l.length + 1 := by
  have := place_le t l
  unfold ins
  simp
  omega
theorem sorted_parts (t : S64) : ∀ l : List S64, l.Pairwise (fun a b => prec a b = true) → l.take (place t l) = l.filter (fun x => prec x t) ∧ l.drop (place t l) = l.filter (fun x => !prec x t)
  | [], _ => by simp
  | a :: r, h => by
    rw [List.pairwise_cons] at h
    have ih := sorted_parts t r h.2
    cases ha : prec a t with
    | true =>
      have e : place t (a :: r) = place t r + 1 := by simp [place, List.filter_cons, ha]
      rw [e, List.take_succ_cons, List.drop_succ_cons, ih.1, ih.2]
      simp [List.filter_cons, ha]
    | false =>
      have hr : ∀ x ∈ r, prec x t = false := fun x hx => by
        cases hxt : prec x t with
        | false => rfl
        | true => rw [prec_trans (h.1 x hx) hxt] at ha; cases ha
      have e1 : r.filter (fun x => prec x t) = [] := List.filter_eq_nil_iff.2 (fun x hx => by simp [hr x hx])
      have e2 : r.filter (fun x => !prec x t) = r := List.filter_eq_self.2 (fun x hx => by simp [hr x hx])
      have e : place t (a :: r) = 0 := by simp [place, List.filter_cons, ha, e1]
      rw [e]
      simp [List.filter_cons, ha, e1, e2]
theorem rd_is (l : List S64) (j : Nat) (hj : j < l.length) : rd_T64 l (j : Int) = l[j] := by simp [rd_T64, List.getD_eq_getElem?_getD, List.getElem?_eq_getElem hj]
theorem place_at (t : S64) {l : List S64} (h : l.Pairwise (fun a b => prec a b = true)) (j : Nat) (hj : j < l.length) : prec (rd_T64 l j) t = true ↔ j < place t l := by
  obtain ⟨h1, h2⟩ := sorted_parts t l h
  rw [rd_is l j hj]
  have hp := place_le t l
  constructor
  · intro hx
    rcases Nat.lt_or_ge j (place t l) with hlt | hge
    · exact hlt
    · have hm : l[j] ∈ l.drop (place t l) := by
        rw [List.mem_iff_getElem]
        exact ⟨j - place t l, by simp; omega, by simp [show place t l + (j - place t l) = j by omega]⟩
      rw [h2] at hm
      have := (List.mem_filter.1 hm).2
      simp [hx] at this
  · intro hlt
    have hm : l[j] ∈ l.take (place t l) := by
      rw [List.mem_iff_getElem]
      exact ⟨j, by simp; omega, by simp⟩
    rw [h1] at hm
    exact (List.mem_filter.1 hm).2
theorem ins_eq (t : S64) {l : List S64} (h : l.Pairwise (fun a b => prec a b = true)) : ins t l = l.filter (fun x => prec x t) ++ t :: l.filter (fun x => !prec x t) := by
  obtain ⟨h1, h2⟩ := sorted_parts t l h
  unfold ins
  rw [h1, h2]
theorem mem_ins (t : S64) (l : List S64) (x : S64) : x ∈ ins t l ↔ x = t ∨ x ∈ l := by
  unfold ins
  rw [List.mem_append, List.mem_cons]
  have := List.take_append_drop (place t l) l
  constructor
  · rintro (h | h | h)
    · exact .inr (List.mem_of_mem_take h)
    · exact .inl h
    · exact .inr (List.mem_of_mem_drop h)
  · rintro (h | h)
    · exact .inr (.inl h)
    · rw [← this, List.mem_append] at h
      rcases h with h | h
      · exact .inl h
      · exact .inr (.inr h)
theorem ins_perm (t : S64) (l : List S64) : (ins t l).Perm (t :: l) := by
  unfold ins
  have := List.perm_middle (a := t) (l₁ := l.take (place t l)) (l₂ := l.drop (place t l))
  rwa [List.take_append_drop] at this
theorem Ok.ins {l : List S64} (h : Ok l) {t : S64} (ht : timeOk t.f1 = true) (hn : ∀ x ∈ l, x.f0 ≠ t.f0) : Ok (ins t l) := by
  refine ⟨fun x hx => ?_, ?_, ?_⟩
  · rcases (mem_ins t l x).1 hx with rfl | hx
    · exact ht
    · exact h.1 x hx
  · refine ((ins_perm t l).map _).nodup_iff.2 ?_
    rw [List.map_cons, List.nodup_cons]
    refine ⟨fun hm => ?_, h.2.1⟩
    obtain ⟨x, hx, he⟩ := List.mem_map.1 hm
    exact hn x hx he
  · rw [ins_eq t h.2.2]
    rw [List.pairwise_append]
    refine ⟨h.2.2.sublist List.filter_sublist, ?_, ?_⟩
    · rw [List.pairwise_cons]
      refine ⟨fun x hx => ?_, h.2.2.sublist List.filter_sublist⟩
      obtain ⟨h1, h2⟩ := List.mem_filter.1 hx
      rw [prec_total (fun e => hn x h1 e.symm)]
      exact h2
    · intro a ha b hb
      have ha' := (List.mem_filter.1 ha).2
      rcases List.mem_cons.1 hb with rfl | hb
      · exact ha'
      · obtain ⟨h1, h2⟩ := List.mem_filter.1 hb
        refine prec_trans ha' ?_
        rw [prec_total (fun e => hn b h1 e.symm)]
        exact h2
/-- Two valid queues with the same timers are the same. -/
theorem sorted_ext {l m : List S64} (h1 : l.Pairwise (fun a b => prec a b = true)) (h2 : m.Pairwise (fun a b => prec a b = true)) (h : ∀ x, x ∈ l ↔ x ∈ m) : l = m := by
  have n1 : l.Nodup := h1.imp (fun {a b} hab he => by subst he; rw [prec_irrefl] at hab; cases hab)
  have n2 : m.Nodup := h2.imp (fun {a b} hab he => by subst he; rw [prec_irrefl] at hab; cases hab)
  have hp : l.Perm m := (List.perm_ext_iff_of_nodup n1 n2).2 h
  exact hp.eq_of_pairwise (fun a b _ _ hab hba => by rw [prec_asymm hab] at hba; cases hba) h1 h2
/-- The timers with other identifiers. -/
def without (id : Int) (l : List S64) : List S64 := l.filter (fun x => !(x.f0 == id))
theorem mem_without (id : Int) (l : List S64) (x : S64) : x ∈ without id l ↔ x ∈ l ∧ x.f0 ≠ id := by
  unfold without
  rw [List.mem_filter]
  simp
theorem without_len (id : Int) (l : List S64) : (without id l).length ≤ l.length := List.length_filter_le ..
end Go.Proofs.Ytldpacphackdjaa.Print
