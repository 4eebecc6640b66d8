/- What the printed updates of the timers' reference answer: the same as the program's. Conditions: enough rounds. -/
import Derived.Test.YtldpacphackdjaaPTimRef
import Derived.Test.YtldpacphackdjaaFD
namespace Go.Proofs.Ytldpacphackdjaa.Print
open Go.RowKit Go.Proofs.YtldpacphackdjaaW.PrintWords Go.Proofs.YtldpacphackdjaaW.PrintLast Go.Proofs.YtldpacphackdjaaW.PrintMore
set_option linter.unusedVariables false
set_option linter.unusedSimpArgs false

theorem without_l0 (l : List S64) (id : Int) (hl : l.length ≤ 2000) : ∀ (d j k : Nat) (acc : List S64), l.length - j = d → d + 1 ≤ k → acc.length ≤ j → crossbarref10_without.l0 k l id acc (j : Int) = some (acc ++ without id (l.drop j)) := by
  intro d
  induction d with
  | zero =>
    intro j k acc hd hk ha
    obtain ⟨k, rfl⟩ : ∃ i, k = i + 1 := ⟨k - 1, by omega⟩
    simp only [crossbarref10_without.l0]
    rw [if_neg (by omega), List.drop_of_length_le (by omega)]
    simp [without]
  | succ d ih =>
    intro j k acc hd hk ha
    obtain ⟨k, rfl⟩ : ∃ i, k = i + 1 := ⟨k - 1, by omega⟩
    have hj : j < l.length := by omega
    simp only [crossbarref10_without.l0]
    rw [if_pos (by omega), if_pos (by omega), w1 (by omega), drop_at l j hj, without, List.filter_cons]
    by_cases he : (rd_T64 l (j : Int)).f0 = id
    · rw [if_pos he, ih (j + 1) k acc (by omega) (by omega) (by omega), if_neg (by simp [he])]
      rfl
    · rw [if_neg he, if_pos (by omega), ih (j + 1) k _ (by omega) (by omega) (by simp; omega), if_pos (by simp [he]), List.append_assoc]
      rfl
theorem without_is (l : List S64) (id : Int) (hl : l.length ≤ 2000) (k : Nat) (hk : 3000 ≤ k) : crossbarref10_without.f k l id = some (without id l) := by
  unfold crossbarref10_without.f
  have := without_l0 l id hl l.length 0 k [] (by omega) (by omega) (by simp)
  rw [show ((0 : Nat) : Int) = 0 from rfl] at this
  rw [this]
  rfl
theorem rset_l1 (l : List S64) (t : S64) (hl : l.length ≤ 2000) : ∀ (d j k : Nat) (acc : List S64), l.length - j = d → d + 1 ≤ k → acc.length ≤ 2001 + j → crossbarref10_Set.l1 k l acc (j : Int) t.f0 t.f1 = some (acc ++ (l.drop j).filter (fun x => prec t x), 0) := by
  intro d
  induction d with
  | zero =>
    intro j k acc hd hk ha
    obtain ⟨k, rfl⟩ : ∃ i, k = i + 1 := ⟨k - 1, by omega⟩
    simp only [crossbarref10_Set.l1]
    rw [if_neg (by omega), List.drop_of_length_le (by omega)]
    simp
  | succ d ih =>
    intro j k acc hd hk ha
    obtain ⟨k, rfl⟩ : ∃ i, k = i + 1 := ⟨k - 1, by omega⟩
    have hj : j < l.length := by omega
    simp only [crossbarref10_Set.l1]
    rw [if_pos (by omega), if_pos (by omega), rprec_is, Option.bind_some, w1 (by omega), drop_at l j hj, List.filter_cons]
    cases hp : prec t (rd_T64 l (j : Int)) with
    | true =>
      rw [if_pos rfl, if_pos (by omega), ih (j + 1) k _ (by omega) (by omega) (by simp; omega), if_pos rfl, List.append_assoc]
      rfl
    | false => rw [if_neg (by simp), ih (j + 1) k acc (by omega) (by omega) (by omega), if_neg (by simp)]
theorem rset_l0 (l : List S64) (t : S64) (hl : l.length ≤ 2000) : ∀ (d j k : Nat) (acc : List S64), l.length - j = d → d + 3000 ≤ k → acc.length ≤ j → j ≤ l.length → crossbarref10_Set.l0 k l acc (j : Int) t.f0 t.f1 = some (acc ++ (l.drop j).filter (fun x => prec x t) ++ t :: l.filter (fun x => prec t x), 0) := by
  intro d
  induction d with
  | zero =>
    intro j k acc hd hk ha hjl
    obtain ⟨k, rfl⟩ : ∃ i, k = i + 1 := ⟨k - 1, by omega⟩
    simp only [crossbarref10_Set.l0]
    have hal : acc.length ≤ 2000 := by omega
    have e0 : (l.drop j).filter (fun x => prec x t) = [] := by rw [List.drop_of_length_le (by omega)]; rfl
    have := rset_l1 l t hl l.length 0 k (acc ++ [(⟨t.f0, t.f1⟩ : S64)]) (by omega) (by omega) (by rw [List.length_append]; simp; omega)
    rw [show ((0 : Nat) : Int) = 0 from rfl] at this
    rw [if_neg (by omega), if_pos (by omega), this, e0]
    simp
  | succ d ih =>
    intro j k acc hd hk ha hjl
    obtain ⟨k, rfl⟩ : ∃ i, k = i + 1 := ⟨k - 1, by omega⟩
    have hj : j < l.length := by omega
    simp only [crossbarref10_Set.l0]
    rw [if_pos (by omega), if_pos (by omega), rprec_is, Option.bind_some, w1 (by omega), drop_at l j hj, List.filter_cons]
    cases hp : prec (rd_T64 l (j : Int)) t with
    | true =>
      rw [if_pos rfl, if_pos (by omega), ih (j + 1) k _ (by omega) (by omega) (by simp; omega) (by omega), if_pos rfl]
      simp
    | false => rw [if_neg (by simp), ih (j + 1) k acc (by omega) (by omega) (by omega) (by omega), if_neg (by simp)]
theorem rcancel_is (l : List S64) (id : Int) (k : Nat) (hk : 2000000 ≤ k) : crossbarref10_Cancel.f k l id = some (if chk l = 0 then (without id l, 0) else ([], chk l)) := by
  unfold crossbarref10_Cancel.f
  rw [rcheck10_is l k hk, Option.bind_some]
  by_cases hc : chk l = 0
  · rw [if_pos hc, if_pos hc, without_is l id (by have := (chk_zero.1 hc).1; omega) k (by omega), Option.bind_some]
  · rw [if_neg hc, if_neg hc]
theorem ins_without {l : List S64} (h : Ok l) (t : S64) : ins t (without t.f0 l) = (without t.f0 l).filter (fun x => prec x t) ++ t :: (without t.f0 l).filter (fun x => prec t x) := by
  have e := ins_eq t (l := without t.f0 l) (h.filter _).2.2
  rw [e]
  congr 2
  refine List.filter_congr (fun x hx => ?_)
  have := ((mem_without t.f0 l x).1 hx).2
  rw [prec_total (a := t) (b := x) (fun e => this e.symm)]
theorem rset_is (l : List S64) (id at_ : Int) (k : Nat) (hk : 2000000 ≤ k) : crossbarref10_Set.f k l id at_ = some (if chk l = 0 then (if timeOk at_ = true then (if (without id l).length = 1024 then ([], 2) else (ins ⟨id, at_⟩ (without id l), 0)) else ([], 1)) else ([], chk l)) := by
  unfold crossbarref10_Set.f
  rw [rcheck10_is l k hk, Option.bind_some]
  by_cases hc : chk l = 0
  · obtain ⟨hl, hok⟩ := chk_zero.1 hc
    have hwl := without_len id l
    rw [if_pos hc, if_pos hc, rtime10_is, Option.bind_some]
    cases ht : timeOk at_ with
    | true =>
      rw [if_pos rfl, if_pos rfl, without_is l id (by omega) k (by omega), Option.bind_some]
      by_cases hn : (without id l).length = 1024
      · rw [if_pos (by omega), if_pos hn]
      · rw [if_neg (by omega), if_neg hn]
        have := rset_l0 (without id l) ⟨id, at_⟩ (by omega) (without id l).length 0 k [] (by omega) (by omega) (by simp) (by omega)
        rw [show ((0 : Nat) : Int) = 0 from rfl] at this
        simp only [List.drop_zero, List.nil_append] at this
        rw [this, ins_without hok ⟨id, at_⟩]
    | false => rw [if_neg (by simp), if_neg (by simp)]
  · rw [if_neg hc, if_neg hc]
theorem rnext_is (l : List S64) (k : Nat) (hk : 2000000 ≤ k) : crossbarref10_Next.f k l = some (if chk l = 0 then (if l.length = 0 then (0, false) else ((rd_T64 l 0).f1, true)) else (0, false)) := by
  unfold crossbarref10_Next.f
  rw [rcheck10_is l k hk, Option.bind_some]
  by_cases hc : chk l = 0
  · rw [if_pos hc, if_pos hc]
    by_cases hn : l.length = 0
    · rw [if_pos (by omega), if_pos hn]
    · rw [if_neg (by omega), if_pos (by omega), if_neg hn]
  · rw [if_neg hc, if_neg hc]
end Go.Proofs.Ytldpacphackdjaa.Print
