/- That the printed law TimersMatchesUpdates answers true at every queue and all numbers. No condition that the law itself does not guard. -/
import Derived.Test.YtldpacphackdjaaPTimSane
import Derived.Test.YtldpacphackdjaaPTimRefU
import Derived.Test.YtldpacphackdjaaF11
namespace Go.Proofs.Ytldpacphackdjaa.Print
open Go.RowKit Go.Proofs.YtldpacphackdjaaW.PrintWords Go.Proofs.YtldpacphackdjaaW.PrintLast Go.Proofs.YtldpacphackdjaaW.PrintMore
set_option linter.unusedVariables false
set_option linter.unusedSimpArgs false

theorem TimersMatchesUpdates_pure (l : List S64) (id at_ : Int) (hn : l.length ≤ 9223372036854775807) (hw : ∀ x ∈ l, Rng x.f0 ∧ Rng x.f1) (w1 : (Lit.int .i64 id).wf = true) (w2 : (Lit.int .i64 at_).wf = true) : ∃ k, crossbarlaw10_TimersMatchesUpdates.f k l id at_ = some true := by
  obtain ⟨k, hk⟩ : ∃ k : Nat, 2000000 ≤ k := ⟨2000000, Nat.le_refl _⟩
  refine ⟨k, ?_⟩
  have hi := ids_of hw
  unfold crossbarlaw10_TimersMatchesUpdates.f
  rw [sane10_is k (by omega), Option.bind_some, if_pos rfl, few10_is, Option.bind_some]
  by_cases hf : l.length ≤ 1100
  · rw [if_pos (decide_eq_true hf), set_is hi, Option.bind_some, rset_is l id at_ k hk, Option.bind_some, cancel_is hi, Option.bind_some, rcancel_is l id k hk, Option.bind_some, next_is hi, Option.bind_some, rnext_is l k hk, Option.bind_some, qcheck_is hi, Option.bind_some, rcheck10_is l k hk, Option.bind_some, if_pos rfl]
    have b2 : (if chk l = 0 then (without id l, (0 : Int)) else ([], chk l)).1.length ≤ 2000 := by
      by_cases hc : chk l = 0
      · rw [if_pos hc]
        have := without_len id l
        show (without id l).length ≤ 2000
        omega
      · rw [if_neg hc]; simp
    have b1 : (if chk l = 0 then (if timeOk at_ = true then (if (without id l).length = 1024 then ([], (2 : Int)) else (ins ⟨id, at_⟩ (without id l), 0)) else ([], 1)) else ([], chk l)).1.length ≤ 2000 := by
      by_cases hc : chk l = 0
      · rw [if_pos hc]
        by_cases ht : timeOk at_ = true
        · rw [if_pos ht]
          by_cases hn : (without id l).length = 1024
          · rw [if_pos hn]; simp
          · rw [if_neg hn]
            show (ins ⟨id, at_⟩ (without id l)).length ≤ 2000
            rw [ins_length]
            have := without_len id l
            omega
        · rw [if_neg ht]; simp
      · rw [if_neg hc]; simp
    rw [same_is _ _ b1 k (by omega), Option.bind_some, if_pos (by simp), if_pos rfl, same_is _ _ b2 k (by omega), Option.bind_some, if_pos (by simp), if_pos rfl, if_pos rfl]
    simp
  · rw [if_neg (by simpa using hf)]
end Go.Proofs.Ytldpacphackdjaa.Print
