/- That the printed law TimersSetCommutes answers true at every queue and all numbers. No condition that the law itself does not guard. -/
import Derived.Test.YtldpacphackdjaaPTimSane
import Derived.Test.YtldpacphackdjaaF16
namespace Go.Proofs.Ytldpacphackdjaa.Print
open Go.RowKit Go.Proofs.YtldpacphackdjaaW.PrintWords Go.Proofs.YtldpacphackdjaaW.PrintLast Go.Proofs.YtldpacphackdjaaW.PrintMore
set_option linter.unusedVariables false
set_option linter.unusedSimpArgs false

theorem tcomm_skip (k : Nat) (l : List S64) (a b c d : Int) : crossbarlaw10_TimersSetCommutes.j0 (k + 1) a b c d true l = some true := by
  simp only [crossbarlaw10_TimersSetCommutes.j0]; rw [if_pos trivial]
theorem tcomm_skip1 (k : Nat) (x y : List S64) (a b c d : Int) : crossbarlaw10_TimersSetCommutes.j1 (k + 1) a b c d true x y = some true := by
  simp only [crossbarlaw10_TimersSetCommutes.j1]; rw [if_pos trivial]
theorem without_comm (a b : Int) (l : List S64) : without a (without b l) = without b (without a l) := by
  unfold without
  rw [List.filter_filter, List.filter_filter]
  exact List.filter_congr (fun x _ => Bool.and_comm ..)
theorem without_ins_len {a b : Int} (hab : a ≠ b) (t : Int) (m : List S64) : (without b (ins ⟨a, t⟩ m)).length = (without b m).length + 1 := by
  have hp : (without b (ins ⟨a, t⟩ m)).Perm (without b (⟨a, t⟩ :: m)) := (ins_perm _ m).filter _
  rw [hp.length_eq]
  simp [without, List.filter_cons, hab]
theorem TimersSetCommutes_pure (l : List S64) (a b c d : Int) (hn : l.length ≤ 9223372036854775807) (hw : ∀ x ∈ l, Rng x.f0 ∧ Rng x.f1) (w1 : (Lit.int .i64 a).wf = true) (w2 : (Lit.int .i64 b).wf = true) (w3 : (Lit.int .i64 c).wf = true) (w4 : (Lit.int .i64 d).wf = true) : ∃ k, crossbarlaw10_TimersSetCommutes.f k l a b c d = some true := by
  obtain ⟨k, hk⟩ : ∃ k : Nat, 2000000 ≤ k := ⟨2000000, Nat.le_refl _⟩
  refine ⟨k + 2, ?_⟩
  have hi := ids_of hw
  unfold crossbarlaw10_TimersSetCommutes.f
  rw [sane10_is (k + 2) (by omega), Option.bind_some, if_pos rfl, few10_is, Option.bind_some]
  by_cases hf : l.length ≤ 1100
  · rw [if_pos (decide_eq_true hf)]
    by_cases hac : a = c
    · rw [show (a == c) = true by simp [hac]]; exact tcomm_skip _ l a b c d
    rw [show (a == c) = false by simp [hac]]
    simp only [crossbarlaw10_TimersSetCommutes.j0]
    rw [if_neg (by simp)]
    obtain ⟨⟨x, e⟩, hx⟩ : ∃ r, timers_Set.f l a b = some r := ⟨_, set_is hi a b⟩
    obtain ⟨⟨y, f⟩, hy⟩ : ∃ r, timers_Set.f l c d = some r := ⟨_, set_is hi c d⟩
    rw [hx, Option.bind_some, hy, Option.bind_some]
    simp only
    by_cases he : e = 0
    · rw [if_pos he]
      by_cases hf0 : f = 0
      · subst he; subst hf0
        obtain ⟨hl, hok, tb, nb, rfl⟩ := set_ok hi hx
        obtain ⟨_, _, td, nd, rfl⟩ := set_ok hi hy
        obtain ⟨g1, g2⟩ := set_good hl hok tb nb
        obtain ⟨g3, g4⟩ := set_good hl hok td nd
        have i1 : idsOk (ins ⟨a, b⟩ (without a l)) = true := idsOk_ins (idsOk_without hi a) (Rng.of_wf w1)
        have i2 : idsOk (ins ⟨c, d⟩ (without c l)) = true := idsOk_ins (idsOk_without hi c) (Rng.of_wf w3)
        have l1 := without_ins_len (a := a) (b := c) hac b (without a l)
        have l2 := without_ins_len (a := c) (b := a) (fun e => hac e.symm) d (without c l)
        rw [without_comm c a l] at l1
        rw [show ((0 : Int) != 0) = false from rfl]
        simp only [crossbarlaw10_TimersSetCommutes.j1]
        rw [if_neg (by simp), set_is i1, Option.bind_some, set_is i2, Option.bind_some, if_pos (chk_zero.2 ⟨g2, g1⟩), if_pos (chk_zero.2 ⟨g4, g3⟩), if_pos tb, if_pos td, l1, l2]
        by_cases hlen : (without a (without c l)).length + 1 = 1024
        · rw [if_pos hlen, if_pos hlen, if_pos rfl, if_neg (by decide), if_pos rfl, same_is _ _ (by simp) k (by omega), Option.bind_some]
          simp
        · rw [if_neg hlen, if_neg hlen, if_pos rfl, if_pos rfl]
          have k1 : Ok (ins ⟨c, d⟩ (without c (ins ⟨a, b⟩ (without a l)))) := (g1.filter _).ins td (fun x hx => ((mem_without c _ x).1 hx).2)
          have k2 : Ok (ins ⟨a, b⟩ (without a (ins ⟨c, d⟩ (without c l)))) := (g3.filter _).ins tb (fun x hx => ((mem_without a _ x).1 hx).2)
          have heq : ins ⟨c, d⟩ (without c (ins ⟨a, b⟩ (without a l))) = ins ⟨a, b⟩ (without a (ins ⟨c, d⟩ (without c l))) := by
            refine sorted_ext k1.2.2 k2.2.2 (fun x => ?_)
            simp only [mem_ins, mem_without]
            constructor
            · rintro (rfl | ⟨rfl | ⟨h1, h2⟩, h3⟩)
              · exact .inr ⟨.inl rfl, fun h => hac h.symm⟩
              · exact .inl rfl
              · exact .inr ⟨.inr ⟨h1, h3⟩, h2⟩
            · rintro (rfl | ⟨rfl | ⟨h1, h2⟩, h3⟩)
              · exact .inr ⟨.inl rfl, hac⟩
              · exact .inl rfl
              · exact .inr ⟨.inr ⟨h1, h3⟩, h2⟩
          rw [same_is _ _ (by
            show (ins ⟨c, d⟩ (without c (ins ⟨a, b⟩ (without a l)))).length ≤ 2000
            rw [ins_length]
            have := without_len c (ins ⟨a, b⟩ (without a l))
            omega) k (by omega), Option.bind_some]
          simp [heq]
      · rw [show (f != 0) = true by simp [hf0]]; exact tcomm_skip1 _ _ _ _ _ _ _
    · rw [if_neg he]; exact tcomm_skip1 _ _ _ _ _ _ _
  · rw [if_neg (by simpa using hf)]; exact tcomm_skip _ l a b c d
end Go.Proofs.Ytldpacphackdjaa.Print
