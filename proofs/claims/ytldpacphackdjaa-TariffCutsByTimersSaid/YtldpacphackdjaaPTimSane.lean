/- That the printed sanity check of the timers' laws answers true, and what the laws need besides. Conditions: enough rounds. -/
import Derived.Test.YtldpacphackdjaaPTimProg
import Derived.Test.YtldpacphackdjaaRowKit
import Derived.Test.YtldpacphackdjaaF32
namespace Go.Proofs.Ytldpacphackdjaa.Print
open Go.RowKit Go.Proofs.YtldpacphackdjaaW.PrintWords Go.Proofs.YtldpacphackdjaaW.PrintLast Go.Proofs.YtldpacphackdjaaW.PrintMore
set_option linter.unusedVariables false
set_option linter.unusedSimpArgs false

theorem sane10_is (k : Nat) (hk : 3000 ≤ k) : crossbarlaw10_sane.f k = some true := by
  have s1 : timers_Set.f ([] : List S64) 5 30 = some ([⟨5, 30⟩], 0) := by rfl
  have s2 : timers_Set.f ([⟨5, 30⟩] : List S64) 2 10 = some ([⟨2, 10⟩, ⟨5, 30⟩], 0) := by rfl
  have s3 : timers_Set.f ([⟨2, 10⟩, ⟨5, 30⟩] : List S64) 7 10 = some ([⟨2, 10⟩, ⟨7, 10⟩, ⟨5, 30⟩], 0) := by rfl
  have s4 : timers_Set.f ([⟨2, 10⟩, ⟨7, 10⟩, ⟨5, 30⟩] : List S64) 5 20 = some ([⟨2, 10⟩, ⟨7, 10⟩, ⟨5, 20⟩], 0) := by rfl
  have s5 : timers_Next.f ([⟨2, 10⟩, ⟨7, 10⟩, ⟨5, 20⟩] : List S64) = some (10, true) := by rfl
  have s6 : timers_Expire.f ([⟨2, 10⟩, ⟨7, 10⟩, ⟨5, 20⟩] : List S64) 10 = some ([⟨5, 20⟩], [2, 7], 0) := by rfl
  have s7 : timers_Expire.f ([⟨2, 10⟩, ⟨7, 10⟩, ⟨5, 20⟩] : List S64) (-1) = some ([], [], 1) := by rfl
  unfold crossbarlaw10_sane.f
  rw [s1, Option.bind_some, s2, Option.bind_some, s3, Option.bind_some, s4, Option.bind_some, s5, Option.bind_some, s6, Option.bind_some, s7, Option.bind_some]
  simp only
  rw [if_pos trivial, if_pos trivial, if_pos trivial, if_pos trivial, if_pos (by decide), if_pos trivial, if_pos trivial, if_pos trivial, ints_is _ _ (by decide) k hk, Option.bind_some, if_pos (by decide), if_pos (by decide), if_pos (by decide), if_pos (by decide)]
  rfl
theorem ids_of {l : List S64} (h : ∀ x ∈ l, Rng x.f0 ∧ Rng x.f1) : idsOk l = true := (idsOk_iff l).2 fun x hx => (h x hx).1
theorem set_ok {l x : List S64} (h : idsOk l = true) {id at_ : Int} (hs : timers_Set.f l id at_ = some (x, 0)) : l.length ≤ 1024 ∧ Ok l ∧ timeOk at_ = true ∧ (without id l).length ≠ 1024 ∧ x = ins ⟨id, at_⟩ (without id l) := by
  rw [set_is h] at hs
  simp only [Option.some.injEq] at hs
  by_cases hc : chk l = 0
  · rw [if_pos hc] at hs
    by_cases ht : timeOk at_ = true
    · rw [if_pos ht] at hs
      by_cases hn : (without id l).length = 1024
      · rw [if_pos hn] at hs
        simp at hs
      · rw [if_neg hn] at hs
        simp only [Prod.mk.injEq] at hs
        exact ⟨(chk_zero.1 hc).1, (chk_zero.1 hc).2, ht, hn, hs.1.symm⟩
    · rw [if_neg ht] at hs
      simp at hs
  · rw [if_neg hc] at hs
    simp only [Prod.mk.injEq] at hs
    exact absurd hs.2 hc
theorem set_good {l : List S64} (hl : l.length ≤ 1024) (hok : Ok l) {id at_ : Int} (ht : timeOk at_ = true) (hn : (without id l).length ≠ 1024) : Ok (ins ⟨id, at_⟩ (without id l)) ∧ (ins ⟨id, at_⟩ (without id l)).length ≤ 1024 := by
  refine ⟨(hok.filter _).ins ht (fun x hx => ((mem_without id l x).1 hx).2), ?_⟩
  rw [ins_length]
  have := without_len id l
  omega
theorem without_short {l : List S64} (h : (l.map (·.f0)).Nodup) (id : Int) : l.length ≤ (without id l).length + 1 := by
  induction l with
  | nil => simp
  | cons a r ih =>
    rw [List.map_cons, List.nodup_cons] at h
    have := ih h.2
    by_cases ha : a.f0 = id
    · have e : without id r = r := List.filter_eq_self.2 (fun x hx => by
        have : x.f0 ≠ id := fun e => h.1 (List.mem_map.2 ⟨x, hx, by rw [e, ha]⟩)
        simp [this])
      have e2 : without id (a :: r) = without id r := by simp [without, List.filter_cons, ha]
      rw [e2, e]
      simp
    · have e2 : without id (a :: r) = a :: without id r := by simp [without, List.filter_cons, ha]
      rw [e2]
      simp
      omega
theorem without_ins {l : List S64} (hok : Ok l) {id at_ : Int} (ht : timeOk at_ = true) : without id (ins ⟨id, at_⟩ (without id l)) = without id l := by
  have h1 : Ok (ins ⟨id, at_⟩ (without id l)) := (hok.filter _).ins ht (fun x hx => ((mem_without id l x).1 hx).2)
  refine sorted_ext (h1.filter _).2.2 (hok.filter _).2.2 (fun x => ?_)
  rw [mem_without, mem_ins, mem_without]
  constructor
  · rintro ⟨rfl | h, h2⟩
    · exact absurd rfl h2
    · exact h
  · intro h
    exact ⟨.inr h, h.2⟩
end Go.Proofs.Ytldpacphackdjaa.Print
