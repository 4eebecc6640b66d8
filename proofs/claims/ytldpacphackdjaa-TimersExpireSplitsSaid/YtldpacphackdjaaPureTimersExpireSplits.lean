/- That the printed law TimersExpireSplits answers true at every queue and all times. No condition that the law itself does not guard. -/
import Derived.Test.YtldpacphackdjaaPTimSane
import Derived.Test.YtldpacphackdjaaF15
namespace Go.Proofs.Ytldpacphackdjaa.Print
open Go.RowKit Go.Proofs.YtldpacphackdjaaW.PrintWords Go.Proofs.YtldpacphackdjaaW.PrintLast Go.Proofs.YtldpacphackdjaaW.PrintMore
set_option linter.unusedVariables false
set_option linter.unusedSimpArgs false

theorem tspl_skip (k : Nat) (l : List S64) (a b : Int) : crossbarlaw10_TimersExpireSplits.j0 (k + 1) a b true l = some true := by
  simp only [crossbarlaw10_TimersExpireSplits.j0]; rw [if_pos trivial]
theorem prec_at {a b : S64} (h : prec a b = true) : a.f1 ≤ b.f1 := by
  rw [prec_iff] at h
  omega
/-- The earlier ones, then the later ones: in a valid queue those that are due stand in front. -/
theorem due_split {now later_ : Int} (hle : now ≤ later_) : ∀ {l : List S64}, l.Pairwise (fun a b => prec a b = true) → due later_ l = due now l ++ due later_ (later now l)
  | [], _ => rfl
  | a :: r, h => by
    rw [List.pairwise_cons] at h
    have ih := due_split hle h.2
    by_cases ha : a.f1 ≤ now
    · have e1 : due later_ (a :: r) = a :: due later_ r := by simp [due, List.filter_cons, show a.f1 ≤ later_ by omega]
      have e2 : due now (a :: r) = a :: due now r := by simp [due, List.filter_cons, ha]
      have e3 : later now (a :: r) = later now r := by simp [later, List.filter_cons, ha]
      rw [e1, e2, e3, ih, List.cons_append]
    · have hr : ∀ x ∈ r, ¬ x.f1 ≤ now := fun x hx => by have := prec_at (h.1 x hx); omega
      have e2 : due now (a :: r) = [] := List.filter_eq_nil_iff.2 (fun x hx => by
        rcases List.mem_cons.1 hx with rfl | hx
        · simpa using ha
        · simpa using hr x hx)
      have e3 : later now (a :: r) = a :: r := List.filter_eq_self.2 (fun x hx => by
        rcases List.mem_cons.1 hx with rfl | hx
        · simpa using ha
        · simpa using hr x hx)
      rw [e2, e3, List.nil_append]
theorem later_later {now later_ : Int} (hle : now ≤ later_) (l : List S64) : later later_ (later now l) = later later_ l := by
  unfold later
  rw [List.filter_filter]
  refine List.filter_congr (fun x _ => ?_)
  by_cases h : x.f1 ≤ now
  · have h2 : x.f1 ≤ later_ := by omega
    simp [h, h2]
  · simp [h]
theorem TimersExpireSplits_pure (l : List S64) (a b : Int) (hn : l.length ≤ 9223372036854775807) (hw : ∀ x ∈ l, Rng x.f0 ∧ Rng x.f1) (w1 : (Lit.int .i64 a).wf = true) (w2 : (Lit.int .i64 b).wf = true) : ∃ k, crossbarlaw10_TimersExpireSplits.f k l a b = some true := by
  obtain ⟨k, hk⟩ : ∃ k : Nat, 2000000 ≤ k := ⟨2000000, Nat.le_refl _⟩
  refine ⟨k + 2, ?_⟩
  have hi := ids_of hw
  unfold crossbarlaw10_TimersExpireSplits.f
  rw [sane10_is (k + 2) (by omega), Option.bind_some, if_pos rfl, few10_is, Option.bind_some]
  by_cases hf : l.length ≤ 1100
  · rw [if_pos (decide_eq_true hf)]
    by_cases hab : a > b
    · rw [decide_eq_true hab]; exact tspl_skip _ l a b
    rw [decide_eq_false hab]
    simp only [crossbarlaw10_TimersExpireSplits.j0]
    rw [if_neg (by simp)]
    by_cases hc : chk l = 0
    · obtain ⟨hl, hok⟩ := chk_zero.1 hc
      have hl1 : (later a l).length ≤ l.length := List.length_filter_le ..
      have hl2 : (later b l).length ≤ l.length := List.length_filter_le ..
      have hd1 : (due a l).length ≤ l.length := List.length_filter_le ..
      have hd2 : (due b l).length ≤ l.length := List.length_filter_le ..
      have hd3 : (due b (later a l)).length ≤ (later a l).length := List.length_filter_le ..
      have hcl : chk (later a l) = 0 := chk_zero.2 ⟨by omega, hok.filter _⟩
      have il : idsOk (later a l) = true := idsOk_filter hi _
      by_cases ta : timeOk a = true
      · by_cases tb : timeOk b = true
        · rw [expire_is hi a, if_pos hc, if_pos ta, Option.bind_some]
          simp only
          rw [expire_is il b, if_pos hcl, if_pos tb, Option.bind_some, expire_is hi b, if_pos hc, if_pos tb, Option.bind_some, if_pos trivial]
          simp only [crossbarlaw10_TimersExpireSplits.j1]
          rw [if_neg (by decide)]
          simp only [Option.bind_some, List.nil_append, List.length_nil, List.length_map]
          rw [if_pos (by omega), if_pos (by omega), if_pos trivial, same_is _ _ (by have : (later b (later a l)).length ≤ (later a l).length := List.length_filter_le ..; omega) k (by omega), Option.bind_some, if_pos (by simp [later_later (show a ≤ b by omega) l]), ← List.map_append, ← due_split (show a ≤ b by omega) hok.2.2, ints_is ((due b l).map (·.f0)) _ (by rw [List.length_map]; omega) k (by omega), Option.bind_some]
          simp
        · rw [expire_is hi a, if_pos hc, if_pos ta, Option.bind_some]
          simp only
          rw [expire_is il b, if_pos hcl, if_neg tb, Option.bind_some, expire_is hi b, if_pos hc, if_neg tb, Option.bind_some, if_pos trivial]
          simp only [crossbarlaw10_TimersExpireSplits.j1]
          rw [if_pos (by decide), if_pos trivial, if_neg (by decide)]
          rfl
      · rw [expire_is hi a, if_pos hc, if_neg ta, Option.bind_some]
        simp only
        rw [expire_is idsOk_nil b, Option.bind_some, expire_is hi b, Option.bind_some, if_neg (by decide)]
        simp only [crossbarlaw10_TimersExpireSplits.j1]
        rw [if_pos trivial, if_neg (by decide), if_pos (by simp)]
    · rw [expire_is hi a, if_neg hc, Option.bind_some]
      simp only
      rw [expire_is idsOk_nil b, Option.bind_some, expire_is hi b, Option.bind_some, if_neg hc]
      simp only [crossbarlaw10_TimersExpireSplits.j1]
      rw [if_pos trivial, if_neg hc, if_pos (by simp)]
  · rw [if_neg (by simpa using hf)]; exact tspl_skip _ l a b
end Go.Proofs.Ytldpacphackdjaa.Print
