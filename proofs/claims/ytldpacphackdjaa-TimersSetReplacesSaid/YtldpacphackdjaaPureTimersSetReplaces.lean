/- That the printed law TimersSetReplaces answers true at every queue and all numbers. No condition that the law itself does not guard. -/
import Derived.Test.YtldpacphackdjaaPTimSane
import Derived.Test.YtldpacphackdjaaF17
namespace Go.Proofs.Ytldpacphackdjaa.Print
open Go.RowKit Go.Proofs.YtldpacphackdjaaW.PrintWords Go.Proofs.YtldpacphackdjaaW.PrintLast Go.Proofs.YtldpacphackdjaaW.PrintMore
set_option linter.unusedVariables false
set_option linter.unusedSimpArgs false

theorem trepl_skip (k : Nat) (l x y : List S64) (a b : Int) : crossbarlaw10_TimersSetReplaces.j0 (k + 1) a b true l x y = some true := by
  simp only [crossbarlaw10_TimersSetReplaces.j0]; rw [if_pos trivial]
theorem TimersSetReplaces_pure (l : List S64) (a b c : Int) (hn : l.length ≤ 9223372036854775807) (hw : ∀ x ∈ l, Rng x.f0 ∧ Rng x.f1) (w1 : (Lit.int .i64 a).wf = true) (w2 : (Lit.int .i64 b).wf = true) (w3 : (Lit.int .i64 c).wf = true) : ∃ k, crossbarlaw10_TimersSetReplaces.f k l a b c = some true := by
  obtain ⟨k, hk⟩ : ∃ k : Nat, 2000000 ≤ k := ⟨2000000, Nat.le_refl _⟩
  refine ⟨k + 1, ?_⟩
  have hi := ids_of hw
  unfold crossbarlaw10_TimersSetReplaces.f
  rw [sane10_is (k + 1) (by omega), Option.bind_some, if_pos rfl, few10_is, Option.bind_some]
  by_cases hf : l.length ≤ 1100
  · rw [if_pos (decide_eq_true hf)]
    obtain ⟨⟨x, e⟩, hx⟩ : ∃ r, timers_Set.f l a b = some r := ⟨_, set_is hi a b⟩
    obtain ⟨⟨y, f⟩, hy⟩ : ∃ r, timers_Set.f l a c = some r := ⟨_, set_is hi a c⟩
    rw [hx, Option.bind_some, hy, Option.bind_some]
    simp only
    by_cases he : e = 0
    · rw [if_pos he]
      by_cases hf0 : f = 0
      · subst he; subst hf0
        obtain ⟨hl, hok, tb, nb, rfl⟩ := set_ok hi hx
        obtain ⟨_, _, tc, nc, rfl⟩ := set_ok hi hy
        obtain ⟨g1, g2⟩ := set_good hl hok tb nb
        obtain ⟨g3, g4⟩ := set_good hl hok tc nc
        have i1 : idsOk (ins ⟨a, b⟩ (without a l)) = true := idsOk_ins (idsOk_without hi a) (Rng.of_wf w1)
        have i2 : idsOk (ins ⟨a, c⟩ (without a l)) = true := idsOk_ins (idsOk_without hi a) (Rng.of_wf w1)
        have hs := without_short hok.2.1 a
        have hwl := without_len a l
        have e1 := without_ins hok (id := a) tb
        have e2 := without_ins hok (id := a) tc
        have e3 : without a (without a l) = without a l := by
          unfold without
          rw [List.filter_filter]
          exact List.filter_congr (fun x _ => Bool.and_self _)
        have c1 : chk (ins ⟨a, b⟩ (without a l)) = 0 := chk_zero.2 ⟨g2, g1⟩
        have c2 : chk (ins ⟨a, c⟩ (without a l)) = 0 := chk_zero.2 ⟨g4, g3⟩
        have c3 : chk (without a l) = 0 := chk_zero.2 ⟨by omega, hok.filter _⟩
        rw [show ((0 : Int) != 0) = false from rfl]
        simp only [crossbarlaw10_TimersSetReplaces.j0]
        rw [if_neg (by simp), set_is i1, if_pos c1, if_pos tc, e1, if_neg nc, Option.bind_some, cancel_is hi, if_pos (chk_zero.2 ⟨hl, hok⟩), Option.bind_some, cancel_is i2, if_pos c2, e2, Option.bind_some, cancel_is (idsOk_without hi a), if_pos c3, e3, Option.bind_some]
        simp only
        have hw0 : wrap64 (((without a l).length : Int) + 1) = ((without a l).length : Int) + 1 := by unfold wrap64; omega
        rw [hw0, if_pos (by rw [ins_length]; omega), if_pos (by omega), if_pos trivial, if_pos trivial, if_pos trivial, if_pos trivial, if_pos (by omega), same_is _ _ (by rw [ins_length]; omega) k (by omega), Option.bind_some, if_pos (by simp), same_is (without a l) (without a l) (by omega) k (by omega), Option.bind_some, if_pos (by simp)]
        simp
      · rw [show (f != 0) = true by simp [hf0]]; exact trepl_skip _ _ _ _ _ _
    · rw [if_neg he]; exact trepl_skip _ _ _ _ _ _
  · rw [if_neg (by simpa using hf)]
end Go.Proofs.Ytldpacphackdjaa.Print
