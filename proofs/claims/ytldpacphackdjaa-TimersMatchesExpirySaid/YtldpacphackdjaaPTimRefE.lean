/- What the printed expiry of the timers' reference answers: the same as the program's. Conditions: enough rounds. -/
import Derived.Test.YtldpacphackdjaaPTimRef
import Derived.Test.YtldpacphackdjaaF44
namespace Go.Proofs.Ytldpacphackdjaa.Print
open Go.RowKit Go.Proofs.YtldpacphackdjaaW.PrintWords Go.Proofs.YtldpacphackdjaaW.PrintLast Go.Proofs.YtldpacphackdjaaW.PrintMore
set_option linter.unusedVariables false
set_option linter.unusedSimpArgs false

theorem rexpire_l0 (l : List S64) (now : Int) (hl : l.length ≤ 2000) : ∀ (d j k : Nat) (acc : List S64) (ids : List Int), l.length - j = d → d + 1 ≤ k → acc.length ≤ j → ids.length ≤ j → crossbarref10_Expire.l0 k now acc ids (j : Int) l = some (acc ++ later now (l.drop j), ids ++ (due now (l.drop j)).map (·.f0), 0) := by
  intro d
  induction d with
  | zero =>
    intro j k acc ids hd hk ha hi
    obtain ⟨k, rfl⟩ : ∃ i, k = i + 1 := ⟨k - 1, by omega⟩
    simp only [crossbarref10_Expire.l0]
    rw [if_neg (by omega), List.drop_of_length_le (by omega)]
    simp [later, due]
  | succ d ih =>
    intro j k acc ids hd hk ha hi
    obtain ⟨k, rfl⟩ : ∃ i, k = i + 1 := ⟨k - 1, by omega⟩
    have hj : j < l.length := by omega
    simp only [crossbarref10_Expire.l0]
    rw [if_pos (by omega), if_pos (by omega), w1 (by omega), drop_at l j hj, later, due, List.filter_cons, List.filter_cons]
    by_cases he : (rd_T64 l (j : Int)).f1 ≤ now
    · rw [if_pos he, if_pos (by omega), ih (j + 1) k acc _ (by omega) (by omega) (by omega) (by simp; omega), if_neg (by simp [he]), if_pos (by simp [he])]
      simp [later, due]
    · rw [if_neg he, if_pos (by omega), ih (j + 1) k _ ids (by omega) (by omega) (by simp; omega) (by omega), if_pos (by simp [he]), if_neg (by simp [he])]
      simp [later, due]
theorem rexpire_is (l : List S64) (now : Int) (k : Nat) (hk : 2000000 ≤ k) : crossbarref10_Expire.f k l now = some (if chk l = 0 then (if timeOk now = true then (later now l, (due now l).map (·.f0), 0) else ([], [], 1)) else ([], [], chk l)) := by
  unfold crossbarref10_Expire.f
  rw [rcheck10_is l k hk, Option.bind_some]
  by_cases hc : chk l = 0
  · rw [if_pos hc, if_pos hc, rtime10_is, Option.bind_some]
    cases ht : timeOk now with
    | true =>
      rw [if_pos rfl, if_pos rfl]
      have := rexpire_l0 l now (by have := (chk_zero.1 hc).1; omega) l.length 0 k [] [] (by omega) (by have := (chk_zero.1 hc).1; omega) (by simp) (by simp)
      rw [show ((0 : Nat) : Int) = 0 from rfl] at this
      rw [this]
      simp
    | false => rw [if_neg (by simp), if_neg (by simp)]
  · rw [if_neg hc, if_neg hc]
end Go.Proofs.Ytldpacphackdjaa.Print
