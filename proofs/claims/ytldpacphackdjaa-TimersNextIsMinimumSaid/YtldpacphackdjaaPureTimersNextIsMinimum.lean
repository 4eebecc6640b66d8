/- That the printed law TimersNextIsMinimum answers true at every script. No condition that the law itself does not guard. -/
import Derived.Test.YtldpacphackdjaaPTimBuilt
import Derived.Test.YtldpacphackdjaaF14
namespace Go.Proofs.Ytldpacphackdjaa.Print
open Go.RowKit Go.Proofs.YtldpacphackdjaaW.PrintWords Go.Proofs.YtldpacphackdjaaW.PrintLast Go.Proofs.YtldpacphackdjaaW.PrintMore
set_option linter.unusedVariables false
set_option linter.unusedSimpArgs false

theorem tmin_l0 (q kept : List S64) (hI : Inv q kept 100) (t : S64) (q' : List S64) (hq : q = t :: q') (K : Nat) (hK : 3000 ≤ K) : ∀ (d i k : Nat) (x : Int), kept.length - i = d → i ≤ kept.length → K + d + 2 ≤ k → t.f1 ≤ x → (∀ j : Nat, j < i → x ≤ (rd_T64 kept (j : Int)).f1) →
    crossbarlaw10_TimersNextIsMinimum.l0 k kept t.f1 true x (i : Int) q = some true := by
  intro d
  have hkl := hI.klen
  have hql := hI.len
  have hchk : chk q = 0 := chk_zero.2 ⟨by omega, hI.ok⟩
  have htq : t ∈ q := by rw [hq]; exact List.mem_cons_self
  have htime := hI.ok.1 t htq
  have hmin : ∀ x ∈ q, t.f1 ≤ x.f1 := fun x hx => by
    have hp := hI.ok.2.2
    rw [hq, List.pairwise_cons] at hp
    rw [hq] at hx
    rcases List.mem_cons.1 hx with rfl | hx
    · exact Int.le_refl _
    · have := (prec_iff t x).1 (hp.1 x hx)
      omega
  induction d with
  | zero =>
    intro i k x hd hi hk hx hall
    obtain ⟨k, rfl⟩ : ∃ i, k = i + 2 := ⟨k - 2, by omega⟩
    obtain rfl : i = kept.length := by omega
    obtain ⟨j, hj, hjt⟩ := List.mem_iff_getElem.1 ((hI.mem t).1 htq)
    have hxt := hall j hj
    rw [rd_is kept j hj, hjt] at hxt
    obtain rfl : x = t.f1 := by omega
    have hdue : due t.f1 q ≠ [] := fun e => by
      have : t ∈ due t.f1 q := List.mem_filter.2 ⟨htq, by simp⟩
      rw [e] at this
      cases this
    have hdl : ((due t.f1 q).map (·.f0)).length ≠ 0 := by
      rw [List.length_map]
      exact fun h => hdue (List.length_eq_zero_iff.1 h)
    simp only [crossbarlaw10_TimersNextIsMinimum.l0]
    rw [if_neg (by omega), expire_is hI.ids, if_pos hchk, if_pos htime, Option.bind_some, if_pos trivial, if_pos trivial]
    simp only
    rw [if_pos trivial]
    rw [show (((List.map (fun x => x.f0) (due t.f1 q)).length : Int) == 0) = false by rw [beq_eq_false_iff_ne]; omega]
    simp only [crossbarlaw10_TimersNextIsMinimum.j1]
    rw [if_neg (by simp)]
    by_cases h0 : t.f1 = 0
    · rw [if_pos h0]
    · have ht0 : 0 ≤ t.f1 ∧ t.f1 ≤ 1099511627776 := by
        unfold timeOk at htime
        simpa using htime
      have hlate : timeOk (t.f1 - 1) = true := by
        unfold timeOk
        simp
        omega
      have e1 : due (t.f1 - 1) q = [] := List.filter_eq_nil_iff.2 (fun y hy => by have := hmin y hy; simp; omega)
      have e2 : later (t.f1 - 1) q = q := List.filter_eq_self.2 (fun y hy => by have := hmin y hy; simp; omega)
      rw [if_neg h0, show wrap64 (t.f1 - 1) = t.f1 - 1 by unfold wrap64; omega, expire_is hI.ids, if_pos hchk, if_pos hlate, Option.bind_some]
      simp only
      rw [if_pos trivial, e1, e2, if_pos (by simp), same_is _ _ (by omega) k (by omega), Option.bind_some]
      simp
  | succ d ih =>
    intro i k x hd hi hk hx hall
    obtain ⟨k, rfl⟩ : ∃ i, k = i + 1 := ⟨k - 1, by omega⟩
    have hj : i < kept.length := by omega
    have hm := hmin _ ((hI.mem _).2 (List.getElem_mem hj))
    rw [← rd_is kept i hj] at hm
    simp only [crossbarlaw10_TimersNextIsMinimum.l0]
    rw [if_pos (by omega), if_pos (by omega), w1 (by omega)]
    refine ih (i + 1) k _ (by omega) (by omega) (by omega) (by unfold mn; split <;> omega) (fun j hji => ?_)
    by_cases he : j = i
    · subst he; unfold mn; split <;> omega
    · have := hall j (by omega); unfold mn; split <;> omega
theorem TimersNextIsMinimum_pure (l : List S88) (hn : l.length ≤ 9223372036854775807) (hw : ∀ x ∈ l, Rng x.f0 ∧ Rng x.f1) : ∃ k, crossbarlaw10_TimersNextIsMinimum.f k l = some true := by
  obtain ⟨k, hk⟩ : ∃ k : Nat, 2000000 ≤ k := ⟨2000000, Nat.le_refl _⟩
  refine ⟨k, ?_⟩
  unfold crossbarlaw10_TimersNextIsMinimum.f
  rw [sane10_is k (by omega), Option.bind_some, if_pos rfl]
  by_cases hf : l.length > 100
  · rw [if_pos (by omega)]
  · obtain ⟨q, kept, h1, hI⟩ := built_is l (by omega) hw k (by omega)
    have hql := hI.len
    have hkl := hI.klen
    have hpl := hI.perm.length_eq
    have hchk : chk q = 0 := chk_zero.2 ⟨by omega, hI.ok⟩
    rw [if_neg (by omega), h1, Option.bind_some]
    simp only
    by_cases h0 : kept.length = 0
    · rw [next_is hI.ids, if_pos hchk, if_pos (show q.length = 0 by omega), Option.bind_some, if_pos (by omega)]
      simp only
      rw [if_pos trivial, if_neg (by simp)]
      simp
      exact List.length_eq_zero_iff.1 (by omega)
    · cases hq : q with
      | nil => rw [hq] at hpl; simp at hpl; omega
      | cons t q' =>
        have hi := hI.ids
        rw [hq] at hi hchk
        rw [next_is hi, if_pos hchk, if_neg (by simp), Option.bind_some, if_neg (by omega), if_pos (by omega)]
        have e0 : (rd_T64 (t :: q') 0) = t := by simp [rd_T64]
        rw [e0]
        have ht : t ∈ q := by rw [hq]; exact List.mem_cons_self
        have hp := hI.ok.2.2
        rw [hq, List.pairwise_cons] at hp
        have hk0 : rd_T64 kept 0 ∈ q := (hI.mem _).2 (by
          have := rd_is kept 0 (by omega)
          rw [show ((0 : Nat) : Int) = 0 from rfl] at this
          rw [this]; exact List.getElem_mem _)
        rw [hq] at hk0
        have hle : t.f1 ≤ (rd_T64 kept 0).f1 := by
          rcases List.mem_cons.1 hk0 with e | h
          · rw [e]; exact Int.le_refl _
          · have := (prec_iff _ _).1 (hp.1 _ h); omega
        have := tmin_l0 q kept hI t q' hq (k - 300) (by omega) kept.length 0 k (rd_T64 kept 0).f1 (by omega) (by omega) (by omega) hle (fun j hj => by omega)
        rw [hq] at this
        exact this
end Go.Proofs.Ytldpacphackdjaa.Print
