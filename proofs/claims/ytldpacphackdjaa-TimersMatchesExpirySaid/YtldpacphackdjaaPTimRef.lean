/- What the printed check of the timers' reference answers: the same as the program's. Conditions: enough rounds. -/
import Derived.Test.YtldpacphackdjaaPTimProg
import Derived.Test.YtldpacphackdjaaFC
namespace Go.Proofs.Ytldpacphackdjaa.Print
open Go.RowKit Go.Proofs.YtldpacphackdjaaW.PrintWords Go.Proofs.YtldpacphackdjaaW.PrintLast Go.Proofs.YtldpacphackdjaaW.PrintMore
set_option linter.unusedVariables false
set_option linter.unusedSimpArgs false

theorem rtime10_is (n : Int) : crossbarref10_Time.f n = some (timeOk n) := by
  unfold crossbarref10_Time.f timeOk
  by_cases h : n ≥ 0
  · rw [if_pos h]; simp [show (0 : Int) ≤ n from h]
  · rw [if_neg h]; simp [show ¬ (0 : Int) ≤ n from h]
theorem rprec_is (a b : S64) : crossbarref10_Precedes.f a.f0 a.f1 b.f0 b.f1 = some (prec a b) := by
  unfold crossbarref10_Precedes.f prec
  by_cases h1 : a.f1 < b.f1
  · rw [if_pos h1]; simp [h1]
  · rw [if_neg h1]
    by_cases h2 : a.f1 = b.f1
    · rw [if_pos h2]; simp [h1, h2]
    · rw [if_neg h2]; simp [h1, h2]
theorem rcheck10_l1 (l : List S64) (j : Nat) (hj : j < l.length) (hl : l.length ≤ 1024) (K : Nat) (r : Int) (H : ∀ k, K ≤ k → crossbarref10_Check.l0 k ((j + 1 : Nat) : Int) l = some r) :
    ∀ (d k m : Nat), j - m = d → m ≤ j → K + d + 1 ≤ k → crossbarref10_Check.l1 k (j : Int) (m : Int) l = some (if (((l.take j).drop m).map (·.f0)).contains (rd_T64 l (j : Int)).f0 = true then 1 else r) := by
  intro d
  induction d with
  | zero =>
    intro k m hd hm hk
    obtain rfl : m = j := by omega
    obtain ⟨k, rfl⟩ : ∃ i, k = i + 1 := ⟨k - 1, by omega⟩
    simp only [crossbarref10_Check.l1]
    rw [if_neg (by omega), w1 (by omega), H k (by omega)]
    have : (l.take m).drop m = [] := List.drop_of_length_le (by simp; omega)
    rw [this]
    simp
  | succ d ih =>
    intro k m hd hm hk
    obtain ⟨k, rfl⟩ : ∃ i, k = i + 1 := ⟨k - 1, by omega⟩
    have hmj : m < j := by omega
    have hc : (l.take j).drop m = l[m] :: (l.take j).drop (m + 1) := by
      rw [List.drop_eq_getElem_cons (by simp; omega)]
      simp
    simp only [crossbarref10_Check.l1]
    rw [if_pos (by omega), if_pos (by omega), if_pos (by omega), if_pos (by omega), if_pos (by omega), w1 (by omega), ih k (m + 1) (by omega) (by omega) (by omega), hc, rd_is l m (by omega)]
    by_cases he : l[m].f0 = (rd_T64 l (j : Int)).f0
    · rw [if_pos he, if_pos (by simp [he])]
    · rw [if_neg he]
      congr 1
      rw [List.map_cons, List.contains_cons]
      have he' : ((rd_T64 l (j : Int)).f0 == l[m].f0) = false := by rw [beq_eq_false_iff_ne]; exact fun e => he e.symm
      rw [he', Bool.false_or]
theorem rcheck10_l0 (l : List S64) (hl : l.length ≤ 1024) : ∀ (d j k : Nat), l.length - j = d → j ≤ l.length → d * (l.length + 3) + 1 ≤ k → crossbarref10_Check.l0 k (j : Int) l = some (qRes l j) := by
  intro d
  induction d with
  | zero =>
    intro j k hd hj hk
    obtain rfl : j = l.length := by omega
    obtain ⟨k, rfl⟩ : ∃ i, k = i + 1 := ⟨k - 1, by omega⟩
    simp only [crossbarref10_Check.l0]
    rw [if_neg (by omega), qRes_end]
  | succ d ih =>
    intro j k hd hj hk
    rw [Nat.succ_mul] at hk
    obtain ⟨M, hM⟩ : ∃ M, M = d * (l.length + 3) := ⟨_, rfl⟩
    rw [← hM] at hk
    have hjl : j < l.length := by omega
    have H : ∀ k, M + 1 ≤ k → crossbarref10_Check.l0 k ((j + 1 : Nat) : Int) l = some (qRes l (j + 1)) := fun k hk => ih (j + 1) k (by omega) (by omega) (by omega)
    obtain ⟨k, rfl⟩ : ∃ i, k = i + 1 := ⟨k - 1, by omega⟩
    simp only [crossbarref10_Check.l0]
    rw [if_pos (by omega), if_pos (by omega), rtime10_is, Option.bind_some]
    obtain ⟨k, rfl⟩ : ∃ i, k = i + 1 := ⟨k - 1, by omega⟩
    have L1 := rcheck10_l1 l j hjl hl (M + 1) _ H j k 0 (by omega) (by omega) (by omega)
    rw [List.drop_zero] at L1
    rw [show ((0 : Nat) : Int) = 0 from rfl] at L1
    cases ht : timeOk (rd_T64 l (j : Int)).f1 with
    | false =>
      rw [if_neg (by simp), qRes_time hjl ht]
      simp only [crossbarref10_Check.j1]
      rw [if_pos trivial]
    | true =>
      rw [if_pos rfl]
      have next : (0 < j → prec (rd_T64 l ((j - 1 : Nat) : Int)) (rd_T64 l (j : Int)) = true) → crossbarref10_Check.j1 (k + 1) (j : Int) false l = some (qRes l j) := fun hp => by
        simp only [crossbarref10_Check.j1]
        rw [if_neg (by simp), L1]
        cases hc : ((l.take j).map (·.f0)).contains (rd_T64 l (j : Int)).f0 with
        | true => rw [if_pos rfl, qRes_seen hjl hc]
        | false => rw [if_neg (by simp), qRes_next hjl ht hc hp]
      by_cases h0 : j = 0
      · subst h0
        rw [if_neg (by omega)]
        exact next (fun h => by omega)
      · rw [if_pos (by omega), show wrap64 ((j : Int) - 1) = ((j - 1 : Nat) : Int) by unfold wrap64; omega, if_pos (by omega), if_pos (by omega), rprec_is, Option.bind_some]
        cases hp : prec (rd_T64 l ((j - 1 : Nat) : Int)) (rd_T64 l (j : Int)) with
        | true => exact next (fun _ => hp)
        | false =>
          rw [qRes_prec hjl (by omega) hp]
          simp only [crossbarref10_Check.j1]
          rw [if_pos (by rfl)]
theorem rcheck10_is (l : List S64) (k : Nat) (hk : 2000000 ≤ k) : crossbarref10_Check.f k l = some (chk l) := by
  unfold crossbarref10_Check.f chk
  by_cases h : l.length > 1024
  · rw [if_pos (by omega), if_pos h]
  · rw [if_neg (by omega), if_neg h]
    have hm : l.length * (l.length + 3) ≤ 1024 * 1027 := Nat.mul_le_mul (by omega) (by omega)
    have := rcheck10_l0 l (by omega) l.length 0 k (by omega) (by omega) (by omega)
    rw [show ((0 : Nat) : Int) = 0 from rfl] at this
    rw [this, qFrom_start]
end Go.Proofs.Ytldpacphackdjaa.Print
