/- That the printed law TimersStayValid answers true at every queue and all numbers. No condition that the law itself does not guard. -/
import Derived.Test.YtldpacphackdjaaPTimSane
import Derived.Test.YtldpacphackdjaaF18
namespace Go.Proofs.Ytldpacphackdjaa.Print
open Go.RowKit Go.Proofs.YtldpacphackdjaaW.PrintWords Go.Proofs.YtldpacphackdjaaW.PrintLast Go.Proofs.YtldpacphackdjaaW.PrintMore
set_option linter.unusedVariables false
set_option linter.unusedSimpArgs false

theorem tstay_ok (k : Nat) (l x y z : List S64) (hl : l.length ≤ 2000) (ix : idsOk x = true) (iy : idsOk y = true) (iz : idsOk z = true) (cx : chk x = 0) (cy : chk y = 0) (cz : chk z = 0) (hk : 3000 ≤ k) : crossbarlaw10_TimersStayValid.j0 (k + 1) false l l x y z = some true := by
  simp only [crossbarlaw10_TimersStayValid.j0]
  rw [if_neg (by simp), qcheck_is ix, Option.bind_some, if_pos cx, qcheck_is iy, Option.bind_some, if_pos cy, qcheck_is iz, Option.bind_some, if_pos cz, same_is _ _ hl k hk, Option.bind_some]
  simp
theorem TimersStayValid_pure (l : List S64) (a b : Int) (hn : l.length ≤ 9223372036854775807) (hw : ∀ x ∈ l, Rng x.f0 ∧ Rng x.f1) (w1 : (Lit.int .i64 a).wf = true) (w2 : (Lit.int .i64 b).wf = true) : ∃ k, crossbarlaw10_TimersStayValid.f k l a b = some true := by
  obtain ⟨k, hk⟩ : ∃ k : Nat, 2000000 ≤ k := ⟨2000000, Nat.le_refl _⟩
  refine ⟨k + 1, ?_⟩
  have hi := ids_of hw
  unfold crossbarlaw10_TimersStayValid.f
  rw [sane10_is (k + 1) (by omega), Option.bind_some, if_pos rfl, few10_is, Option.bind_some]
  by_cases hf : l.length ≤ 1100
  · rw [if_pos (decide_eq_true hf)]
    simp only [Option.bind_some, List.nil_append, List.length_nil]
    have c0 : chk ([] : List S64) = 0 := by decide
    rw [if_pos (by omega), set_is hi, Option.bind_some, cancel_is hi, Option.bind_some, expire_is hi, Option.bind_some, qcheck_is hi, Option.bind_some]
    by_cases hc : chk l = 0
    · obtain ⟨hl, hok⟩ := chk_zero.1 hc
      rw [if_pos hc, if_pos hc, if_pos hc, if_pos hc]
      have cw : chk (without a l) = 0 := chk_zero.2 ⟨by have := without_len a l; omega, hok.filter _⟩
      have iw := idsOk_without hi a
      have hl1 : (later b l).length ≤ l.length := List.length_filter_le ..
      have cl : chk (later b l) = 0 := chk_zero.2 ⟨by omega, hok.filter _⟩
      by_cases ht : timeOk b = true
      · rw [if_pos ht, if_pos ht]
        by_cases hlen : (without a l).length = 1024
        · rw [if_pos hlen]
          exact tstay_ok k l _ _ _ (by omega) idsOk_nil iw (idsOk_filter hi _) c0 cw cl (by omega)
        · rw [if_neg hlen]
          obtain ⟨g1, g2⟩ := set_good hl hok ht hlen
          exact tstay_ok k l _ _ _ (by omega) (idsOk_ins iw (Rng.of_wf w1)) iw (idsOk_filter hi _) (chk_zero.2 ⟨g2, g1⟩) cw cl (by omega)
      · rw [if_neg ht, if_neg ht]
        exact tstay_ok k l _ _ _ (by omega) idsOk_nil iw idsOk_nil c0 cw c0 (by omega)
    · rw [if_neg hc, if_neg hc, if_neg hc, if_neg hc]
      simp only
      rw [if_neg hc, if_neg hc, show (chk l == 0) = false by simpa using hc]
      exact tstay_ok k l _ _ _ (by omega) idsOk_nil idsOk_nil idsOk_nil c0 c0 c0 (by omega)
  · rw [if_neg (by simpa using hf)]
end Go.Proofs.Ytldpacphackdjaa.Print
