/- What a script of updates builds: a valid queue, and a list of the same timers in some order. Conditions: at most 100 updates, enough rounds. -/
import Derived.Test.YtldpacphackdjaaPTimSane
import Derived.Test.YtldpacphackdjaaF46
namespace Go.Proofs.Ytldpacphackdjaa.Print
open Go.RowKit Go.Proofs.YtldpacphackdjaaW.PrintWords Go.Proofs.YtldpacphackdjaaW.PrintLast Go.Proofs.YtldpacphackdjaaW.PrintMore
set_option linter.unusedVariables false
set_option linter.unusedSimpArgs false

/-- The queue is valid; the list holds the same timers. -/
structure Inv (q kept : List S64) (m : Nat) : Prop where
  ok : Ok q
  ids : idsOk q = true
  len : q.length ≤ m
  klen : kept.length ≤ m
  nodup : (kept.map (·.f0)).Nodup
  mem : ∀ x, x ∈ q ↔ x ∈ kept
theorem Inv.start : Inv [] [] 0 := ⟨Ok.nil, rfl, by simp, by simp, by simp, by simp⟩
theorem Inv.skip {q kept : List S64} {m : Nat} (h : Inv q kept m) : Inv q kept (m + 1) := ⟨h.ok, h.ids, by have := h.len; omega, by have := h.klen; omega, h.nodup, h.mem⟩
theorem Inv.cancel {q kept : List S64} {m : Nat} (h : Inv q kept m) (id : Int) : Inv (without id q) (without id kept) (m + 1) where
  ok := h.ok.filter _
  ids := idsOk_without h.ids id
  len := by have := h.len; have := without_len id q; omega
  klen := by have := h.klen; have := without_len id kept; omega
  nodup := h.nodup.sublist (List.filter_sublist.map _)
  mem := fun x => by rw [mem_without, mem_without, h.mem]
theorem Inv.set {q kept : List S64} {m : Nat} (h : Inv q kept m) {id at_ : Int} (ht : timeOk at_ = true) (hid : -9223372036854775808 ≤ id ∧ id ≤ 9223372036854775807) : Inv (ins ⟨id, at_⟩ (without id q)) (without id kept ++ [⟨id, at_⟩]) (m + 1) where
  ok := (h.ok.filter _).ins ht (fun x hx => ((mem_without id q x).1 hx).2)
  ids := idsOk_ins (idsOk_without h.ids id) hid
  len := by rw [ins_length]; have := h.len; have := without_len id q; omega
  klen := by rw [List.length_append, List.length_singleton]; have := h.klen; have := without_len id kept; omega
  nodup := by
    rw [List.map_append, List.nodup_append]
    refine ⟨h.nodup.sublist (List.filter_sublist.map _), by simp, ?_⟩
    intro a ha b hb
    obtain ⟨x, hx, rfl⟩ := List.mem_map.1 ha
    simp only [List.map_cons, List.map_nil, List.mem_singleton] at hb
    rw [hb]
    exact ((mem_without id kept x).1 hx).2
  mem := fun x => by
    rw [mem_ins, mem_without, List.mem_append, mem_without, h.mem, List.mem_singleton]
    exact Or.comm
theorem Inv.nd {q kept : List S64} {m : Nat} (h : Inv q kept m) : q.Nodup ∧ kept.Nodup := by
  refine ⟨h.ok.2.2.imp (fun {a b} hab he => by subst he; rw [prec_irrefl] at hab; cases hab), ?_⟩
  have := List.pairwise_map.1 h.nodup
  exact this.imp (fun {a b} hab he => hab (by rw [he]))
theorem Inv.perm {q kept : List S64} {m : Nat} (h : Inv q kept m) : q.Perm kept := (List.perm_ext_iff_of_nodup h.nd.1 h.nd.2).2 h.mem
theorem Inv.same {q kept : List S64} {m : Nat} (h : Inv q kept m) {x y : S64} (hx : x ∈ kept) (hy : y ∈ kept) (e : x.f0 = y.f0) : x = y := by
  obtain ⟨i, hi, rfl⟩ := List.mem_iff_getElem.1 hx
  obtain ⟨j, hj, rfl⟩ := List.mem_iff_getElem.1 hy
  have hp := List.pairwise_iff_getElem.1 (List.pairwise_map.1 h.nodup)
  rcases Nat.lt_trichotomy i j with hlt | rfl | hgt
  · exact absurd e (hp i j hi hj hlt)
  · rfl
  · exact absurd e.symm (hp j i hj hi hgt)


theorem rdU_is (l : List S88) (j : Nat) (hj : j < l.length) : rd_T88 l (j : Int) = l[j] := by simp [rd_T88, List.getD_eq_getElem?_getD, List.getElem?_eq_getElem hj]
theorem built_l1 (us : List S88) (kept q : List S64) (i : Nat) (hi : i < us.length) (hl : us.length ≤ 100) (hkl : kept.length ≤ 200) : ∀ (d m k : Nat) (rest : List S64), kept.length - m = d → d + 1 ≤ k → rest.length ≤ m → m ≤ kept.length → ∃ k', k ≤ k' + d + 1 ∧ crossbarlaw10_built.l1 k us kept (i : Int) rest (m : Int) q =
    (if (rd_T88 us (i : Int)).f1 ≥ 0 then crossbarlaw10_built.l0 k' us (rest ++ without (rd_T88 us (i : Int)).f0 (kept.drop m) ++ [⟨(rd_T88 us (i : Int)).f0, (rd_T88 us (i : Int)).f1⟩]) ((i + 1 : Nat) : Int) q else crossbarlaw10_built.l0 k' us (rest ++ without (rd_T88 us (i : Int)).f0 (kept.drop m)) ((i + 1 : Nat) : Int) q) := by
  intro d
  induction d with
  | zero =>
    intro m k rest hd hk ha hm
    obtain ⟨k, rfl⟩ : ∃ i, k = i + 1 := ⟨k - 1, by omega⟩
    refine ⟨k, by omega, ?_⟩
    have e : without (rd_T88 us (i : Int)).f0 (kept.drop m) = [] := by rw [List.drop_of_length_le (by omega)]; rfl
    rw [e, List.append_nil]
    simp only [crossbarlaw10_built.l1]
    rw [if_neg (by omega), if_pos (by omega), if_pos (by omega), w1 (by omega), if_pos (show rest.length < 8796093022208 by omega)]
  | succ d ih =>
    intro m k rest hd hk ha hm
    obtain ⟨k, rfl⟩ : ∃ i, k = i + 1 := ⟨k - 1, by omega⟩
    have hj : m < kept.length := by omega
    simp only [crossbarlaw10_built.l1]
    rw [if_pos (by omega), if_pos (by omega), if_pos (by omega), if_pos (by omega), w1 (by omega), drop_at kept m hj]
    by_cases he : (rd_T64 kept (m : Int)).f0 = (rd_T88 us (i : Int)).f0
    · obtain ⟨k', h1, h2⟩ := ih (m + 1) k rest (by omega) (by omega) (by omega) (by omega)
      have e : without (rd_T88 us (i : Int)).f0 (rd_T64 kept (m : Int) :: kept.drop (m + 1)) = without (rd_T88 us (i : Int)).f0 (kept.drop (m + 1)) := by simp [without, List.filter_cons, he]
      rw [if_pos he, e]
      exact ⟨k', by omega, h2⟩
    · obtain ⟨k', h1, h2⟩ := ih (m + 1) k (rest ++ [(⟨(rd_T64 kept (m : Int)).f0, (rd_T64 kept (m : Int)).f1⟩ : S64)]) (by omega) (by omega) (by simp; omega) (by omega)
      have e : without (rd_T88 us (i : Int)).f0 (rd_T64 kept (m : Int) :: kept.drop (m + 1)) = rd_T64 kept (m : Int) :: without (rd_T88 us (i : Int)).f0 (kept.drop (m + 1)) := by simp [without, List.filter_cons, he]
      rw [if_neg he, if_pos (by omega), e]
      refine ⟨k', by omega, ?_⟩
      rw [h2]
      simp only [List.append_assoc, List.cons_append, List.nil_append]
def cost (d : Nat) : Nat := d * 300 + 10
theorem cost_pos (d : Nat) : 2 ≤ cost d := by unfold cost; omega
theorem cost_succ (d : Nat) : cost (d + 1) = cost d + 300 := by unfold cost; omega
theorem built_l0 (us : List S88) (hl : us.length ≤ 100) (hw : ∀ x ∈ us, Rng x.f0 ∧ Rng x.f1) : ∀ (d i k : Nat) (q kept : List S64), us.length - i = d → i ≤ us.length → Inv q kept i → cost d ≤ k → ∃ q' kept', crossbarlaw10_built.l0 k us kept (i : Int) q = some (q', kept') ∧ Inv q' kept' us.length := by
  intro d
  induction d with
  | zero =>
    intro i k q kept hd hi hI hk
    have hc := cost_pos 0
    obtain ⟨k, rfl⟩ : ∃ i, k = i + 1 := ⟨k - 1, by omega⟩
    obtain rfl : i = us.length := by omega
    refine ⟨q, kept, ?_, hI⟩
    simp only [crossbarlaw10_built.l0]
    rw [if_neg (by omega)]
  | succ d ih =>
    intro i k q kept hd hi hI hk
    rw [cost_succ] at hk
    obtain ⟨c, hc⟩ : ∃ c, cost d = c := ⟨_, rfl⟩
    rw [hc] at hk ih
    obtain ⟨k, rfl⟩ : ∃ i, k = i + 2 := ⟨k - 2, by omega⟩
    have hj : i < us.length := by omega
    have hu := hw us[i] (List.getElem_mem hj)
    rw [← rdU_is us i hj] at hu
    have hql := hI.len
    have hkl := hI.klen
    have hchk : chk q = 0 := chk_zero.2 ⟨by omega, hI.ok⟩
    simp only [crossbarlaw10_built.l0]
    rw [if_pos (by omega), if_pos (by omega)]
    by_cases ha : (rd_T88 us (i : Int)).f1 ≥ 0
    · rw [if_pos ha, set_is hI.ids, if_pos hchk, Option.bind_some]
      by_cases ht : timeOk (rd_T88 us (i : Int)).f1 = true
      · rw [if_pos ht, if_neg (by have := without_len (rd_T88 us (i : Int)).f0 q; omega)]
        simp only [crossbarlaw10_built.j1]
        rw [if_pos trivial]
        obtain ⟨k', h1, h2⟩ := built_l1 us kept (ins ⟨(rd_T88 us (i : Int)).f0, (rd_T88 us (i : Int)).f1⟩ (without (rd_T88 us (i : Int)).f0 q)) i hj hl (by omega) kept.length 0 k [] (by omega) (by omega) (by simp) (by omega)
        rw [show ((0 : Nat) : Int) = 0 from rfl] at h2
        rw [h2, if_pos ha, List.nil_append, List.drop_zero]
        exact ih (i + 1) k' _ _ (by omega) (by omega) (hI.set ht hu.1) (by omega)
      · rw [if_neg ht]
        simp only [crossbarlaw10_built.j1]
        rw [if_neg (by decide), w1 (by omega)]
        exact ih (i + 1) k _ _ (by omega) (by omega) hI.skip (by omega)
    · rw [if_neg ha, cancel_is hI.ids, if_pos hchk, Option.bind_some]
      simp only [crossbarlaw10_built.j1]
      rw [if_pos trivial]
      obtain ⟨k', h1, h2⟩ := built_l1 us kept (without (rd_T88 us (i : Int)).f0 q) i hj hl (by omega) kept.length 0 k [] (by omega) (by omega) (by simp) (by omega)
      rw [show ((0 : Nat) : Int) = 0 from rfl] at h2
      rw [h2, if_neg ha, List.nil_append, List.drop_zero]
      exact ih (i + 1) k' _ _ (by omega) (by omega) (hI.cancel _) (by omega)
theorem built_is (us : List S88) (hl : us.length ≤ 100) (hw : ∀ x ∈ us, Rng x.f0 ∧ Rng x.f1) (k : Nat) (hk : 100000 ≤ k) : ∃ q kept, crossbarlaw10_built.f k us = some (q, kept) ∧ Inv q kept 100 := by
  have hc : cost us.length ≤ k := by unfold cost; omega
  obtain ⟨q, kept, h1, h2⟩ := built_l0 us hl hw us.length 0 k [] [] (by omega) (by omega) Inv.start hc
  exact ⟨q, kept, h1, h2.ok, h2.ids, by have := h2.len; omega, by have := h2.klen; omega, h2.nodup, h2.mem⟩
end Go.Proofs.Ytldpacphackdjaa.Print
