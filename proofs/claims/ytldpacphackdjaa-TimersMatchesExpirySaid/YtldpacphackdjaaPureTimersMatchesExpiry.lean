/- That the printed law TimersMatchesExpiry answers true at every queue and time. No condition that the law itself does not guard. -/
import Derived.Test.YtldpacphackdjaaPTimSane
import Derived.Test.YtldpacphackdjaaPTimRefE
import Derived.Test.YtldpacphackdjaaF12
namespace Go.Proofs.Ytldpacphackdjaa.Print
open Go.RowKit Go.Proofs.YtldpacphackdjaaW.PrintWords Go.Proofs.YtldpacphackdjaaW.PrintLast Go.Proofs.YtldpacphackdjaaW.PrintMore
set_option linter.unusedVariables false
set_option linter.unusedSimpArgs false

theorem TimersMatchesExpiry_pure (l : List S64) (now : Int) (hn : l.length ≤ 9223372036854775807) (hw : ∀ x ∈ l, Rng x.f0 ∧ Rng x.f1) (w1 : (Lit.int .i64 now).wf = true) : ∃ k, crossbarlaw10_TimersMatchesExpiry.f k l now = some true := by
  obtain ⟨k, hk⟩ : ∃ k : Nat, 2000000 ≤ k := ⟨2000000, Nat.le_refl _⟩
  refine ⟨k, ?_⟩
  have hi := ids_of hw
  unfold crossbarlaw10_TimersMatchesExpiry.f
  rw [sane10_is k (by omega), Option.bind_some, if_pos rfl, few10_is, Option.bind_some]
  by_cases hf : l.length ≤ 1100
  · rw [if_pos (decide_eq_true hf), expire_is hi, Option.bind_some, rexpire_is l now k hk, Option.bind_some]
    have b1 : (if chk l = 0 then (if timeOk now = true then (later now l, (due now l).map (·.f0), (0 : Int)) else ([], [], 1)) else ([], [], chk l)).1.length ≤ 2000 ∧ (if chk l = 0 then (if timeOk now = true then (later now l, (due now l).map (·.f0), (0 : Int)) else ([], [], 1)) else ([], [], chk l)).2.1.length ≤ 2000 := by
      have h1 : (later now l).length ≤ l.length := List.length_filter_le ..
      have h2 : (due now l).length ≤ l.length := List.length_filter_le ..
      by_cases hc : chk l = 0
      · rw [if_pos hc]
        by_cases ht : timeOk now = true
        · rw [if_pos ht]
          refine ⟨by show (later now l).length ≤ 2000; omega, by show ((due now l).map (·.f0)).length ≤ 2000; rw [List.length_map]; omega⟩
        · rw [if_neg ht]; simp
      · rw [if_neg hc]; simp
    rw [same_is _ _ b1.1 k (by omega), Option.bind_some, if_pos (by simp), ints_is _ _ b1.2 k (by omega), Option.bind_some, if_pos (by simp)]
    simp
  · rw [if_neg (by simpa using hf)]
end Go.Proofs.Ytldpacphackdjaa.Print
