/- Parts of the proofs of layer 28's laws, joined in one file by a program of the session; each part begins with its own sentence. -/
import Derived.Test.YtldpacphackdjaaDoorZa6
import Derived.Test.YtldpacphackdjaaDoorZjHQCons
/- How a list of operations that came in stands in memory, told in the words of the printed contracts (three numbers each). No conditions beyond that it can be read as data. -/
namespace Go.Proofs.YtldpacphackdjaaDoor.Print
open Go.ChangeShapes Go.WideShapes Go.ChangeAt Go.RowKit Go.Deep
open Go.Proofs.YtldpacphackdjaaDoorW.PrintWords hiding add_add
set_option linter.unusedVariables false
section
variable {H : Type} {enc : TypeId × Value → H} {w : World} {base : Nat} {spare : Nat → Bool} {held : Bool}
set_option maxRecDepth 100000 in
theorem open_ops {b0 : Nat} {v : Value} {d : DataW H} {p : List MemPlace} (hv : Value.okWide Tryd.prog w .any b0 62 v) (h : DataW.Trod enc Tryd.prog w base spare held 62 v d p) :
    ∃ (A : Option Addr) (c : Nat) (l : List S54), v = .slice A l.length c ∧ l.length ≤ c ∧ l.length ≤ 9223372036854775807 ∧ (∀ x ∈ l, Rng x.f0 ∧ Rng x.f1 ∧ Rng x.f2) ∧ Kd.C k54 w A l.length l := by
  obtain ⟨a, len, cap, rfl⟩ := okWide_slice Tryd.underlying62 hv
  obtain ⟨fuel, hf⟩ := h
  obtain ⟨A, c, l, hcs, hl, hm, hw, hr⟩ := open_triples Tryd.underlying62 Tryd.underlying64 (by kernel_rfl) rfl rfl rfl (by kernel_rfl) (by kernel_rfl) (by kernel_rfl) (by kernel_rfl) (by kernel_rfl) (by kernel_rfl) hf
  simp only [Value.cells, List.cons.injEq, and_true, Value.slice.injEq] at hcs
  obtain ⟨rfl, rfl, rfl⟩ := hcs
  have hR := reads_map (d := k54) mkHold (fun p => [.int .i64 p.1, .int .i64 p.2.1, .int .i64 p.2.2]) rfl (fun _ => rfl) (fun p => k54_mk w (mkHold p)) hr
  have hlen : (l.map mkHold).length = l.length := List.length_map ..
  refine ⟨a, cap, l.map mkHold, by rw [hlen], by rw [hlen]; exact hl, by rw [hlen]; simp only [maxLen] at hm; omega, ?_, hR⟩
  intro x hx
  obtain ⟨q, hq, rfl⟩ := List.mem_map.1 hx
  exact ⟨Rng.of_wf (hw q hq).1, Rng.of_wf (hw q hq).2.1, Rng.of_wf (hw q hq).2.2⟩
end
end Go.Proofs.YtldpacphackdjaaDoor.Print
/- The law PrepaidConservesCredit, told as a Lean function that answers true where every amount of the script is in an int's range, which it always is; and the call's contract in that form. No condition that the law itself does not guard. -/
namespace Go.Proofs.YtldpacphackdjaaDoor.Print
open Go.RowKit Go.Proofs.YtldpacphackdjaaDoorW.PrintWords Go.Proofs.YtldpacphackdjaaDoorW.PrintLast Go.Proofs.YtldpacphackdjaaDoorW.PrintMore
set_option linter.unusedVariables false
def crossbarlaw28_PrepaidConservesCredit.f (k : Nat) (s : ByteArray) (b : Int) (l : List S54) (tl : List S70) (ops : List S54) : Option Bool := if opsOk ops = true then some true else none
theorem crossbarlaw28_PrepaidConservesCredit.calls (k : Nat) (s : ByteArray) (b : Int) (A0 : Option Addr) (c0 : Nat) (l : List S54) (At : Option Addr) (ct : Nat) (tl : List S70) (Ap : Option Addr) (cp : Nat) (ops : List S54) (r : Bool) (w : World) (hr : Kd.C k54 w A0 l.length l) (hc : l.length ≤ c0) (ht : Kd.C k70 w At tl.length tl) (htc : tl.length ≤ ct) (ho : Kd.C k54 w Ap ops.length ops) (hoc : ops.length ≤ cp) (h : crossbarlaw28_PrepaidConservesCredit.f k s b l tl ops = some r) :
  Calls Tryd.prog 9 #[.agg #[.string s, .int .i64 b, .slice A0 l.length c0], .agg #[.slice At tl.length ct], .slice Ap ops.length cp] w fun e w' => e = .returned (.bool r) ∧ Below w.heap.size w w' := by
  unfold crossbarlaw28_PrepaidConservesCredit.f at h
  by_cases hw : opsOk ops = true
  · rw [if_pos hw] at h
    obtain rfl := Option.some.inj h
    exact cons_calls s b A0 c0 l At ct tl Ap cp ops w hr hc ht htc ho hoc hw
  · rw [if_neg hw] at h
    cases h
theorem PrepaidConservesCredit_pure (s : ByteArray) (b : Int) (l : List S54) (tl : List S70) (ops : List S54) (hs : s.size ≤ maxLen) (hb : Rng b) (hn : l.length ≤ 9223372036854775807) (hw : ∀ x ∈ l, Rng x.f0 ∧ Rng x.f1 ∧ Rng x.f2) (hn1 : tl.length ≤ 9223372036854775807) (hw1 : ∀ x ∈ tl, Rng x.f0 ∧ Rng x.f1) (hn2 : ops.length ≤ 9223372036854775807) (hw2 : ∀ x ∈ ops, Rng x.f0 ∧ Rng x.f1 ∧ Rng x.f2) : ∃ k, crossbarlaw28_PrepaidConservesCredit.f k s b l tl ops = some true := by
  refine ⟨0, ?_⟩
  unfold crossbarlaw28_PrepaidConservesCredit.f
  rw [if_pos]
  unfold opsOk
  rw [List.all_eq_true]
  intro x hx
  have := (hw2 x hx).2.2
  unfold Rng at this
  simp only [Bool.and_eq_true, decide_eq_true_eq]
  exact this
end Go.Proofs.YtldpacphackdjaaDoor.Print
