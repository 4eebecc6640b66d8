/- Parts of the proofs of layer 28's laws, joined in one file by a program of the session; each part begins with its own sentence. -/
import Derived.Test.YtldpacphackdjaaDoorRows
import Derived.ProofKit
import Derived.Test.YtldpacphackdjaaDoorVaK0
import Derived.WalkKit
import Derived.OpenShut
import Derived.ChangeOld
import Derived.Below
import Derived.SizedLaws
import Derived.Deep.SlicePairs
import Derived.Deep.Strs
import Derived.ChangeMaps5
import Derived.Test.YtldpacphackdjaaDoorVa8
import Derived.Test.YtldpacphackdjaaDoorVa4
import Derived.Test.YtldpacphackdjaaDoorVa6
import Derived.Test.YtldpacphackdjaaDoorVaHMStop
import Derived.Test.YtldpacphackdjaaDoorVa1
import Derived.Test.YtldpacphackdjaaDoorVaHPSettle
import Derived.Test.YtldpacphackdjaaDoorVa7
import Derived.Test.YtldpacphackdjaaDoorVaSq
import Derived.Test.YtldpacphackdjaaDoorVaHPResA
import Derived.Test.YtldpacphackdjaaDoorVa9
import Derived.Test.YtldpacphackdjaaDoorVa2
import Derived.Test.YtldpacphackdjaaDoorVa3
import Derived.Laws.BitsLemmas
import Derived.Test.YtldpacphackdjaaDoorVaF3
/- The words of the program's head line: behind the harness' word and its sum. No conditions. -/
namespace Go.Proofs.YtldpacphackdjaaDoor
set_option maxRecDepth 100000
def headSigns : List Char := [Char.ofNat 104, Char.ofNat 97, Char.ofNat 114, Char.ofNat 110, Char.ofNat 101, Char.ofNat 115, Char.ofNat 115, Char.ofNat 32, Char.ofNat 99, Char.ofNat 54, Char.ofNat 98, Char.ofNat 51, Char.ofNat 99, Char.ofNat 97, Char.ofNat 49, Char.ofNat 53, Char.ofNat 101, Char.ofNat 101, Char.ofNat 97, Char.ofNat 101, Char.ofNat 50, Char.ofNat 102, Char.ofNat 51, Char.ofNat 50, Char.ofNat 102, Char.ofNat 54, Char.ofNat 100, Char.ofNat 48, Char.ofNat 99, Char.ofNat 55, Char.ofNat 57, Char.ofNat 57, Char.ofNat 52, Char.ofNat 55, Char.ofNat 100, Char.ofNat 48, Char.ofNat 54, Char.ofNat 99, Char.ofNat 55, Char.ofNat 50, Char.ofNat 99, Char.ofNat 99, Char.ofNat 98, Char.ofNat 51, Char.ofNat 100, Char.ofNat 98, Char.ofNat 102, Char.ofNat 54, Char.ofNat 100, Char.ofNat 101, Char.ofNat 99, Char.ofNat 51, Char.ofNat 54, Char.ofNat 50, Char.ofNat 97, Char.ofNat 100, Char.ofNat 54, Char.ofNat 54, Char.ofNat 52, Char.ofNat 101, Char.ofNat 57, Char.ofNat 57, Char.ofNat 101, Char.ofNat 53, Char.ofNat 51, Char.ofNat 55, Char.ofNat 98, Char.ofNat 56, Char.ofNat 48, Char.ofNat 101, Char.ofNat 53, Char.ofNat 49, Char.ofNat 32]
def leadSigns : List Char := [Char.ofNat 99, Char.ofNat 117, Char.ofNat 116, Char.ofNat 32]
def tailSigns : List Char := [Char.ofNat 97, Char.ofNat 116, Char.ofNat 32, Char.ofNat 99, Char.ofNat 114, Char.ofNat 111, Char.ofNat 115, Char.ofNat 115, Char.ofNat 98, Char.ofNat 97, Char.ofNat 114, Char.ofNat 47, Char.ofNat 99, Char.ofNat 114, Char.ofNat 111, Char.ofNat 115, Char.ofNat 115, Char.ofNat 98, Char.ofNat 97, Char.ofNat 114, Char.ofNat 116, Char.ofNat 111, Char.ofNat 112, Char.ofNat 46, Char.ofNat 84, Char.ofNat 111, Char.ofNat 112, Char.ofNat 80, Char.ofNat 114, Char.ofNat 101, Char.ofNat 112, Char.ofNat 97, Char.ofNat 105, Char.ofNat 100, Char.ofNat 32, Char.ofNat 99, Char.ofNat 114, Char.ofNat 111, Char.ofNat 115, Char.ofNat 115, Char.ofNat 98, Char.ofNat 97, Char.ofNat 114, Char.ofNat 47, Char.ofNat 99, Char.ofNat 114, Char.ofNat 111, Char.ofNat 115, Char.ofNat 115, Char.ofNat 98, Char.ofNat 97, Char.ofNat 114, Char.ofNat 108, Char.ofNat 97, Char.ofNat 119, Char.ofNat 50, Char.ofNat 56, Char.ofNat 46, Char.ofNat 80, Char.ofNat 114, Char.ofNat 101, Char.ofNat 112, Char.ofNat 97, Char.ofNat 105, Char.ofNat 100, Char.ofNat 77, Char.ofNat 97, Char.ofNat 116, Char.ofNat 99, Char.ofNat 104, Char.ofNat 101, Char.ofNat 115, Char.ofNat 82, Char.ofNat 101, Char.ofNat 115, Char.ofNat 101, Char.ofNat 114, Char.ofNat 118, Char.ofNat 101, Char.ofNat 32, Char.ofNat 99, Char.ofNat 114, Char.ofNat 111, Char.ofNat 115, Char.ofNat 115, Char.ofNat 98, Char.ofNat 97, Char.ofNat 114, Char.ofNat 47, Char.ofNat 99, Char.ofNat 114, Char.ofNat 111, Char.ofNat 115, Char.ofNat 115, Char.ofNat 98, Char.ofNat 97, Char.ofNat 114, Char.ofNat 108, Char.ofNat 97, Char.ofNat 119, Char.ofNat 50, Char.ofNat 56, Char.ofNat 46, Char.ofNat 80, Char.ofNat 114, Char.ofNat 101, Char.ofNat 112, Char.ofNat 97, Char.ofNat 105, Char.ofNat 100, Char.ofNat 67, Char.ofNat 104, Char.ofNat 117, Char.ofNat 110, Char.ofNat 107, Char.ofNat 115, Char.ofNat 65, Char.ofNat 102, Char.ofNat 102, Char.ofNat 111, Char.ofNat 114, Char.ofNat 100, Char.ofNat 65, Char.ofNat 108, Char.ofNat 108, Char.ofNat 32, Char.ofNat 99, Char.ofNat 114, Char.ofNat 111, Char.ofNat 115, Char.ofNat 115, Char.ofNat 98, Char.ofNat 97, Char.ofNat 114, Char.ofNat 47, Char.ofNat 99, Char.ofNat 114, Char.ofNat 111, Char.ofNat 115, Char.ofNat 115, Char.ofNat 98, Char.ofNat 97, Char.ofNat 114, Char.ofNat 108, Char.ofNat 97, Char.ofNat 119, Char.ofNat 50, Char.ofNat 56, Char.ofNat 46, Char.ofNat 80, Char.ofNat 114, Char.ofNat 101, Char.ofNat 112, Char.ofNat 97, Char.ofNat 105, Char.ofNat 100, Char.ofNat 67, Char.ofNat 97, Char.ofNat 108, Char.ofNat 108, Char.ofNat 115, Char.ofNat 73, Char.ofNat 110, Char.ofNat 100, Char.ofNat 101, Char.ofNat 112, Char.ofNat 101, Char.ofNat 110, Char.ofNat 100, Char.ofNat 101, Char.ofNat 110, Char.ofNat 116, Char.ofNat 32, Char.ofNat 99, Char.ofNat 114, Char.ofNat 111, Char.ofNat 115, Char.ofNat 115, Char.ofNat 98, Char.ofNat 97, Char.ofNat 114, Char.ofNat 47, Char.ofNat 99, Char.ofNat 114, Char.ofNat 111, Char.ofNat 115, Char.ofNat 115, Char.ofNat 98, Char.ofNat 97, Char.ofNat 114, Char.ofNat 108, Char.ofNat 97, Char.ofNat 119, Char.ofNat 50, Char.ofNat 56, Char.ofNat 46, Char.ofNat 80, Char.ofNat 114, Char.ofNat 101, Char.ofNat 112, Char.ofNat 97, Char.ofNat 105, Char.ofNat 100, Char.ofNat 83, Char.ofNat 101, Char.ofNat 116, Char.ofNat 116, Char.ofNat 108, Char.ofNat 101, Char.ofNat 66, Char.ofNat 111, Char.ofNat 117, Char.ofNat 110, Char.ofNat 100, Char.ofNat 101, Char.ofNat 100, Char.ofNat 32, Char.ofNat 99, Char.ofNat 114, Char.ofNat 111, Char.ofNat 115, Char.ofNat 115, Char.ofNat 98, Char.ofNat 97, Char.ofNat 114, Char.ofNat 47, Char.ofNat 99, Char.ofNat 114, Char.ofNat 111, Char.ofNat 115, Char.ofNat 115, Char.ofNat 98, Char.ofNat 97, Char.ofNat 114, Char.ofNat 108, Char.ofNat 97, Char.ofNat 119, Char.ofNat 50, Char.ofNat 56, Char.ofNat 46, Char.ofNat 80, Char.ofNat 114, Char.ofNat 101, Char.ofNat 112, Char.ofNat 97, Char.ofNat 105, Char.ofNat 100, Char.ofNat 77, Char.ofNat 97, Char.ofNat 116, Char.ofNat 99, Char.ofNat 104, Char.ofNat 101, Char.ofNat 115, Char.ofNat 65, Char.ofNat 99, Char.ofNat 99, Char.ofNat 111, Char.ofNat 117, Char.ofNat 110, Char.ofNat 116, Char.ofNat 115, Char.ofNat 32, Char.ofNat 99, Char.ofNat 114, Char.ofNat 111, Char.ofNat 115, Char.ofNat 115, Char.ofNat 98, Char.ofNat 97, Char.ofNat 114, Char.ofNat 47, Char.ofNat 99, Char.ofNat 114, Char.ofNat 111, Char.ofNat 115, Char.ofNat 115, Char.ofNat 98, Char.ofNat 97, Char.ofNat 114, Char.ofNat 108, Char.ofNat 97, Char.ofNat 119, Char.ofNat 50, Char.ofNat 56, Char.ofNat 46, Char.ofNat 80, Char.ofNat 114, Char.ofNat 101, Char.ofNat 112, Char.ofNat 97, Char.ofNat 105, Char.ofNat 100, Char.ofNat 67, Char.ofNat 111, Char.ofNat 110, Char.ofNat 115, Char.ofNat 101, Char.ofNat 114, Char.ofNat 118, Char.ofNat 101, Char.ofNat 115, Char.ofNat 67, Char.ofNat 114, Char.ofNat 101, Char.ofNat 100, Char.ofNat 105, Char.ofNat 116, Char.ofNat 32, Char.ofNat 99, Char.ofNat 114, Char.ofNat 111, Char.ofNat 115, Char.ofNat 115, Char.ofNat 98, Char.ofNat 97, Char.ofNat 114, Char.ofNat 47, Char.ofNat 99, Char.ofNat 114, Char.ofNat 111, Char.ofNat 115, Char.ofNat 115, Char.ofNat 98, Char.ofNat 97, Char.ofNat 114, Char.ofNat 108, Char.ofNat 97, Char.ofNat 119, Char.ofNat 50, Char.ofNat 56, Char.ofNat 46, Char.ofNat 80, Char.ofNat 114, Char.ofNat 101, Char.ofNat 112, Char.ofNat 97, Char.ofNat 105, Char.ofNat 100, Char.ofNat 68, Char.ofNat 101, Char.ofNat 112, Char.ofNat 111, Char.ofNat 115, Char.ofNat 105, Char.ofNat 116, Char.ofNat 115, Char.ofNat 32, Char.ofNat 99, Char.ofNat 114, Char.ofNat 111, Char.ofNat 115, Char.ofNat 115, Char.ofNat 98, Char.ofNat 97, Char.ofNat 114, Char.ofNat 47, Char.ofNat 99, Char.ofNat 114, Char.ofNat 111, Char.ofNat 115, Char.ofNat 115, Char.ofNat 98, Char.ofNat 97, Char.ofNat 114, Char.ofNat 108, Char.ofNat 97, Char.ofNat 119, Char.ofNat 50, Char.ofNat 56, Char.ofNat 46, Char.ofNat 80, Char.ofNat 114, Char.ofNat 101, Char.ofNat 112, Char.ofNat 97, Char.ofNat 105, Char.ofNat 100, Char.ofNat 82, Char.ofNat 101, Char.ofNat 115, Char.ofNat 101, Char.ofNat 114, Char.ofNat 118, Char.ofNat 97, Char.ofNat 116, Char.ofNat 105, Char.ofNat 111, Char.ofNat 110, Char.ofNat 80, Char.ofNat 97, Char.ofNat 121, Char.ofNat 115, Char.ofNat 65, Char.ofNat 104, Char.ofNat 101, Char.ofNat 97, Char.ofNat 100]
theorem head_text : Tryd.prog.initOrder = String.ofList (headSigns ++ (leadSigns ++ tailSigns)) := by kernel_rfl
theorem head_behind (r : List Char) : behindMainWord (wordsSigns (headSigns ++ r)) = wordsSigns r := by kernel_rfl
theorem head_lead (r : List Char) : wordsSigns (leadSigns ++ r) = ["cut".toList] ++ wordsSigns r := by kernel_rfl
theorem head_words : behindMainWord (wordsSigns Tryd.prog.initOrder.toList) = ["cut".toList] ++ wordsSigns tailSigns := by
  rw [head_text, String.toList_ofList, head_behind, head_lead]
theorem make_of (P : Program) (r : List (List Char)) (h : behindMainWord (wordsSigns P.initOrder.toList) = ["cut".toList] ++ r) : P.make = some .cut := by
  unfold Program.make
  rw [h]
  generalize P.headLifts = z
  kernel_rfl
theorem strip_of (r : List (List Char)) : stripLifts liftWords (["cut".toList] ++ r) = ([], ["cut".toList] ++ r) := by kernel_rfl
theorem lifts_of (P : Program) (r : List (List Char)) (h : behindMainWord (wordsSigns P.initOrder.toList) = ["cut".toList] ++ r) : P.liftsFinal = false := by
  unfold Program.liftsFinal Program.headLifts
  rw [h]
  kernel_rfl
theorem enter_of (P : Program) (r : List (List Char)) (h : behindMainWord (wordsSigns P.initOrder.toList) = ["cut".toList] ++ r) (h1 : P.laysLater = false) (h2 : P.bearsReflect = false) (h3 : P.doorFits [] = true) : P.mayEnter = true := by
  unfold Program.mayEnter
  rw [h]
  have e : stripLifts liftWords ("cut".toList :: r) = ([], "cut".toList :: r) := strip_of r
  simp only [List.cons_append, List.nil_append, e, h1, h2, h3]
  simp
theorem may_enter : Tryd.prog.mayEnter = true := enter_of _ _ head_words (by kernel_rfl) (by kernel_rfl) (by kernel_rfl)
theorem lifts_final : Tryd.prog.liftsFinal = false := lifts_of _ _ head_words
theorem make_is : Tryd.prog.make = some .cut := make_of _ _ head_words
theorem laid_out : laidOutB Tryd.prog = true := by kernel_rfl
theorem maps_rowed : mapsRowed Tryd.prog = true := by kernel_rfl
theorem stops_heard : Tryd.prog.stopsHeard = true := by kernel_rfl
end Go.Proofs.YtldpacphackdjaaDoor
/- How a tariff, an account and a list of operations that came in stand in memory, told in the words of the printed contracts. No conditions beyond that they can be read as data. -/
namespace Go.Proofs.YtldpacphackdjaaDoor.Print
open Go.ChangeShapes Go.WideShapes Go.ChangeAt Go.RowKit Go.Deep
open Go.Proofs.YtldpacphackdjaaDoorW.PrintWords hiding add_add
set_option linter.unusedVariables false

section
variable {H : Type} {enc : TypeId × Value → H} {P : Program} {w : World} {base : Nat} {spare : Nat → Bool} {held : Bool}

/-- A slice of structs of two whole numbers, opened: its length, its capacity, its elements. -/
theorem open_pairs {t e : TypeId} {f0 f1 : Field} {fuel : Nat} {cs : List Value} {x : DataW H × List MemPlace} (ht : P.underlying t = some (.slice e)) (he : P.underlying e = some (.struct #[f0, f1]))
    (ce : P.cellsOf e = 2) (o0 : f0.offset = 0) (o1 : f1.offset = 1) (c0 : P.cellsOf f0.type = 1) (c1 : P.cellsOf f1.type = 1) (u0 : P.underlying f0.type = some (.int .i64)) (u1 : P.underlying f1.type = some (.int .i64))
    (h : DataW.trod enc P w base spare held fuel t cs = some x) :
    ∃ (A : Option Addr) (c : Nat) (l : List (Int × Int)), cs = [.slice A l.length c] ∧ l.length ≤ c ∧ c ≤ maxLen ∧ (∀ p ∈ l, (Lit.int .i64 p.1).wf = true ∧ (Lit.int .i64 p.2).wf = true) ∧
      ReadsRow (fun (p : Int × Int) cs => cs = [.int .i64 p.1, .int .i64 p.2]) 2 w A l.length l := by
  rcases open_slice_pairs ht he ce o0 o1 c0 c1 h with ⟨rfl, _⟩ | ⟨a, len, cap, m, n, V0, V1, D0, D1, P0, P1, rfl, _, hl, hm, hmm, _, hx⟩
  · exact ⟨none, 0, [], rfl, Nat.le_refl _, Nat.zero_le _, by simp, rfl, by simp, fun h => absurd h (by simp)⟩
  · have hlm : len ≤ m := by rw [hmm]; split <;> omega
    have each : ∀ i, i < len → ∃ q : Int × Int, w.cell? (a.add (i * 2)) = some (.int .i64 q.1) ∧ w.cell? (a.add (i * 2 + 1)) = some (.int .i64 q.2) ∧ (Lit.int .i64 q.1).wf = true ∧ (Lit.int .i64 q.2).wf = true := by
      intro i hi
      obtain ⟨h0, h1, h2, h3⟩ := hx i (by omega)
      obtain ⟨y0, e0, _, w0⟩ := DataW.trod_int u0 h2
      obtain ⟨y1, e1, _, w1⟩ := DataW.trod_int u1 h3
      simp only [List.cons.injEq, and_true] at e0 e1
      rw [e0] at h0
      rw [e1] at h1
      exact ⟨(y0, y1), h0, h1, w0, w1⟩
    obtain ⟨q, hq⟩ := choose_lt each
    have hlen : ((List.range len).map q).length = len := by simp
    refine ⟨some a, cap, (List.range len).map q, by rw [hlen], by rw [hlen]; exact hl, hm, ?_, ?_⟩
    · intro p hp
      obtain ⟨i, hi, rfl⟩ := List.mem_map.1 hp
      exact (hq i (List.mem_range.1 hi)).2.2
    · refine ⟨rfl, by rw [hlen]; simp only [maxLen] at hm; omega, fun _ => ⟨a, rfl, fun j p hp => ?_⟩⟩
      have hj : j < len := by
        rw [← hlen]
        exact (List.getElem?_eq_some_iff.1 hp).1
      have hp2 : p = q j := by
        rw [List.getElem?_map, List.getElem?_range hj] at hp
        simpa using hp.symm
      subst hp2
      refine ⟨_, rfl, rfl, fun i u hu => ?_⟩
      match i, hu with
      | 0, hu =>
        simp only [List.getElem?_cons_zero, Option.some.injEq] at hu
        subst hu
        exact (hq j hj).1
      | 1, hu =>
        simp only [List.getElem?_cons_succ, List.getElem?_cons_zero, Option.some.injEq] at hu
        subst hu
        exact (hq j hj).2.1
      | i + 2, hu => simp at hu

/-- A struct whose one field is a slice, by value. -/
theorem open_agg1 {r : Reach} {b0 : Nat} {t : TypeId} {f0 : Field} {v : Value} {d : DataW H} {p : List MemPlace} (hs : P.underlying t = some (.struct #[f0])) (o0 : f0.offset = 0) (k0 : P.cellsOf f0.type = 1) (hC : P.cellsOf t = 1)
    (hv : Value.okWide P w r b0 t v) (h : DataW.Trod enc P w base spare held t v d p) :
    ∃ (v0 : Value) (y0 : DataW H × List MemPlace) (n : Nat), v = .agg #[v0] ∧ DataW.trod enc P w base spare held n f0.type [v0] = some y0 := by
  obtain ⟨cs, rfl, hsz⟩ := okWide_struct hs hv
  obtain ⟨c0, rfl⟩ : ∃ c0, cs = #[c0] := by
    have h1 : cs.size = 1 := hsz.trans hC
    exact ⟨cs[0], by apply Array.ext <;> simp [h1]; intro i hi; have : i = 0 := by omega
                     subst this; rfl⟩
  obtain ⟨fuel, hf⟩ := h
  obtain ⟨y0, n, _, _, h0⟩ := trod_struct1 hs hf
  exact ⟨c0, y0, n, rfl, by simpa [Value.cells, o0, k0] using h0⟩

end

section
variable {H : Type} {enc : TypeId × Value → H} {w : World} {base : Nat} {spare : Nat → Bool} {held : Bool}
/-- The numbers of an int's range. -/
def Rng (n : Int) : Prop := -9223372036854775808 ≤ n ∧ n ≤ 9223372036854775807
theorem Rng.of_wf {n : Int} (h : (Lit.int .i64 n).wf = true) : Rng n := by
  simp [Lit.wf] at h
  exact h
def mkBand (p : Int × Int) : S70 := ⟨p.1, p.2⟩
theorem reads_map {α β : Type} {d : Kd α} {sz : Nat} (f : β → α) (g : β → List Value) (hsz : d.sz = sz) (hg : ∀ p, (g p).length = sz) (hK : ∀ p, d.K w (f p) (g p)) {A : Option Addr} {l : List β}
    (h : ReadsRow (fun (p : β) cs => cs = g p) sz w A l.length l) : Kd.C d w A (l.map f).length (l.map f) := by
  obtain ⟨_, h2, h3⟩ := h
  refine ⟨rfl, by rw [List.length_map]; exact h2, fun hp => ?_⟩
  rw [List.length_map] at hp
  obtain ⟨ad, e, hc⟩ := h3 hp
  refine ⟨ad, e, fun j p hj => ?_⟩
  rw [List.getElem?_map] at hj
  obtain ⟨q, hq, rfl⟩ := Option.map_eq_some_iff.1 hj
  obtain ⟨c, hlen, rfl, hcell⟩ := hc j q hq
  exact ⟨_, by rw [hsz]; exact hg q, hK q, fun i u hu => by rw [hsz]; exact hcell i u hu⟩

set_option maxRecDepth 100000 in
theorem open_tariff {b0 : Nat} {v : Value} {d : DataW H} {p : List MemPlace} (hv : Value.okWide Tryd.prog w .any b0 24 v) (h : DataW.Trod enc Tryd.prog w base spare held 24 v d p) :
    ∃ (A : Option Addr) (c : Nat) (l : List S70), v = .agg #[.slice A l.length c] ∧ l.length ≤ c ∧ l.length ≤ 9223372036854775807 ∧ (∀ x ∈ l, Rng x.f0 ∧ Rng x.f1) ∧ Kd.C k70 w A l.length l := by
  obtain ⟨v0, y0, n, rfl, h0⟩ := open_agg1 Tryd.underlying24 (by kernel_rfl) (by kernel_rfl) (by kernel_rfl) hv h
  obtain ⟨A, c, l, hcs, hl, hm, hw, hr⟩ := open_pairs Tryd.underlying22 Tryd.underlying70 (by kernel_rfl) rfl rfl (by kernel_rfl) (by kernel_rfl) (by kernel_rfl) (by kernel_rfl) h0
  simp only [List.cons.injEq, and_true] at hcs
  subst hcs
  have hR := reads_map (d := k70) mkBand (fun p => [.int .i64 p.1, .int .i64 p.2]) rfl (fun _ => rfl) (fun p => k70_mk w (mkBand p)) hr
  have hlen : (l.map mkBand).length = l.length := List.length_map ..
  refine ⟨A, c, l.map mkBand, by rw [hlen], by rw [hlen]; exact hl, by rw [hlen]; simp only [maxLen] at hm; omega, ?_, hR⟩
  intro x hx
  obtain ⟨q, hq, rfl⟩ := List.mem_map.1 hx
  exact ⟨Rng.of_wf (hw q hq).1, Rng.of_wf (hw q hq).2⟩

end
end Go.Proofs.YtldpacphackdjaaDoor.Print
/- What the printed functions of package tariff answer, in plain words: Rate the rate, Price the difference of two totals, Change the next change. Conditions: enough rounds. -/
namespace Go.Proofs.YtldpacphackdjaaDoor.Print
open Go.RowKit Go.Proofs.YtldpacphackdjaaDoorW.PrintWords Go.Proofs.YtldpacphackdjaaDoorW.PrintLast Go.Proofs.YtldpacphackdjaaDoorW.PrintMore
set_option linter.unusedVariables false
set_option linter.unusedSimpArgs false

/-- The band of round m of Change's loop: past the last band the next day's first one follows. -/
def chI (n m : Nat) : Nat := if m < n then m else m - n
def chD (n m : Nat) : Nat := if m < n then 0 else 1
theorem chI_lt {n m : Nat} (h : m < n) : chI n m = m := if_pos h
theorem chI_ge {n m : Nat} (h : n ≤ m) : chI n m = m - n := if_neg (by omega)
theorem chD_lt {n m : Nat} (h : m < n) : chD n m = 0 := if_pos h
theorem chD_ge {n m : Nat} (h : n ≤ m) : chD n m = 1 := if_neg (by omega)
theorem chI_bd {n m : Nat} (h : m < n + n) : chI n m < n := by
  by_cases hm : m < n
  · rw [chI_lt hm]; exact hm
  · rw [chI_ge (by omega)]; omega
theorem chD_bd (n m : Nat) : chD n m ≤ 1 := by
  by_cases hm : m < n
  · rw [chD_lt hm]; omega
  · rw [chD_ge (by omega)]; omega
theorem chI_add (n i : Nat) : chI n (i + n) = i := by rw [chI_ge (by omega)]; omega
theorem change_l0 {l : List S70} (hg : good l = true) (x : Int) (hx : 0 ≤ x) (hx2 : x ≤ 1099511627776) (b : Nat) (hb : upTo (x % 86400) l = b + 1) (r : Int) (hr : r = rateAt l (x % 86400)) :
    ∀ (d j k : Nat), l.length - j = d → d < k → j ≤ l.length →
    (∀ m, b < m → m ≤ b + j → (rd_T70 l (chI l.length m)).f1 = r) →
    ∃ nx ok, tariff_Change.l0 k 0 r (l.length : Int) (chI l.length (b + j)) (x - x % 86400 + (chD l.length (b + j) : Int) * 86400) (l.length : Int) (j : Int) l = some (nx, ok, 0) ∧ ChangeIs l x nx ok ∧ nx ≤ x + 86400 := by
  have hbl : b < l.length := by have := upTo_le (x % 86400) l; omega
  have hl24 := (good_len hg).2
  have hst : ∀ i : Nat, i < l.length → ((rd_T70 l i).f0 ≤ x % 86400 ↔ i ≤ b) := fun i hi => by have := good_upTo hg (x % 86400) i hi; omega
  have hrb : (rd_T70 l b).f1 = r := by rw [hr, rateAt_eq hg _ (by omega), hb]; rfl
  intro d
  induction d with
  | zero =>
    intro j k hd hk hj hI
    obtain ⟨k, rfl⟩ : ∃ m, k = m + 1 := ⟨k - 1, by omega⟩
    simp only [tariff_Change.l0]
    rw [if_neg (by omega)]
    refine ⟨0, false, rfl, change_none hg x (fun i hi => ?_), by omega⟩
    by_cases hib : i ≤ b
    · by_cases he : i = b
      · subst he; rw [hrb, hr]
      · have := hI (i + l.length) (by omega) (by omega)
        rw [← hr, ← this]
        rw [chI_add]
    · have := hI i (by omega) (by omega)
      rw [← hr, ← this]
      rw [chI_lt hi]
  | succ d ih =>
    intro j k hd hk hj hI
    obtain ⟨k, rfl⟩ : ∃ m, k = m + 1 := ⟨k - 1, by omega⟩
    have hjl : j < l.length := by omega
    have hmx : b + j + 1 ≤ b + l.length := by omega
    -- the band of this round
    have hmi : chI l.length (b + j + 1) < l.length := chI_bd (by omega)
    have hfi := good_at hg _ hmi
    have hnext : ∀ d' i' : Nat, d' < 2 → i' < l.length → x < startT l x d' i' → startT l x d' i' < startT l x (chD l.length (b + j + 1)) (chI l.length (b + j + 1)) → (rd_T70 l i').f1 = rateAt l (x % 86400) := by
      intro d' i' hd' hi' h1 h2
      rw [← hr]
      have g1 := good_at hg i' hi'
      have g2 := hst i' hi'
      unfold startT at h1 h2
      by_cases h0 : d' = 0
      · subst h0
        have hib : b < i' := by omega
        have : i' ≤ b + j := by
          refine Nat.le_of_not_lt fun hlt => ?_
          by_cases hm : b + j + 1 < l.length
          · have ee : chI l.length (b + j + 1) = b + j + 1 ∧ chD l.length (b + j + 1) = 0 := ⟨chI_lt hm, chD_lt hm⟩
            rw [ee.1, ee.2] at h2
            by_cases heq : i' = b + j + 1
            · subst heq; omega
            · have := good_lt hg (b + j + 1) i' hi' (by omega); omega
          · omega
        have := hI i' hib this
        rw [← this]
        rw [chI_lt hi']
      · have h1' : d' = 1 := by omega
        subst h1'
        by_cases hm : b + j + 1 < l.length
        · have ee : chD l.length (b + j + 1) = 0 := chD_lt hm
          rw [ee] at h2
          omega
        · have ee : chI l.length (b + j + 1) = b + j + 1 - l.length ∧ chD l.length (b + j + 1) = 1 := ⟨chI_ge (by omega), chD_ge (by omega)⟩
          rw [ee.1, ee.2] at h2
          have hlt : i' < b + j + 1 - l.length := by
            refine Nat.lt_of_not_le fun hle => ?_
            by_cases heq : i' = b + j + 1 - l.length
            · subst heq; omega
            · have := good_lt hg (b + j + 1 - l.length) i' hi' (by omega); omega
          have := hI (i' + l.length) (by omega) (by omega)
          rw [← this]
          rw [chI_add]
    have hbehind : x < startT l x (chD l.length (b + j + 1)) (chI l.length (b + j + 1)) ∧ startT l x (chD l.length (b + j + 1)) (chI l.length (b + j + 1)) ≤ x + 86400 := by
      have g2 := hst _ hmi
      unfold startT
      by_cases hm : b + j + 1 < l.length
      · have ee : chI l.length (b + j + 1) = b + j + 1 ∧ chD l.length (b + j + 1) = 0 := ⟨chI_lt hm, chD_lt hm⟩
        rw [ee.1] at g2 hfi
        rw [ee.1, ee.2]
        omega
      · have ee : chI l.length (b + j + 1) = b + j + 1 - l.length ∧ chD l.length (b + j + 1) = 1 := ⟨chI_ge (by omega), chD_ge (by omega)⟩
        rw [ee.1] at g2 hfi
        rw [ee.1, ee.2]
        omega
    have hstep : ∀ m, b < m → m ≤ b + (j + 1) → (rd_T70 l (chI l.length (b + j + 1))).f1 = r → (rd_T70 l (chI l.length m)).f1 = r := by
      intro m h1 h2 h3
      by_cases he : m = b + j + 1
      · subst he; exact h3
      · exact hI m h1 (by omega)
    simp only [tariff_Change.l0]
    rw [if_pos (by omega), show wrap64 ((j : Int) + 1) = ((j + 1 : Nat) : Int) by unfold wrap64; omega]
    by_cases hwr : chI l.length (b + j) + 1 = l.length
    · -- the next day begins
      have hbj : b + j + 1 = l.length := by
        by_cases hm : b + j < l.length
        · rw [chI_lt hm] at hwr; exact hwr
        · rw [chI_ge (by omega)] at hwr; omega
      have ee : chI l.length (b + j + 1) = 0 ∧ chD l.length (b + j + 1) = 1 := ⟨by rw [chI_ge (by omega)]; omega, chD_ge (by omega)⟩
      have e0 : chD l.length (b + j) = 0 := chD_lt (by omega)
      rw [show wrap64 ((chI l.length (b + j) : Int) + 1) = (l.length : Int) by unfold wrap64; omega, if_pos rfl, if_pos (by omega), e0]
      rw [show wrap64 (x - x % 86400 + ((0 : Nat) : Int) * 86400 + 86400) = x - x % 86400 + ((1 : Nat) : Int) * 86400 by unfold wrap64; omega]
      rw [ee.1] at hfi
      rw [ee.1, ee.2] at hnext hbehind
      by_cases hf : (rd_T70 l 0).f1 = r
      · rw [if_pos hf]
        have := ih (j + 1) k (by omega) (by omega) (by omega) (fun m h1 h2 => hstep m h1 h2 (by rw [ee.1]; exact hf))
        rw [show b + (j + 1) = b + j + 1 by omega, ee.1, ee.2] at this
        exact this
      · rw [if_neg hf]
        rw [show wrap64 (x - x % 86400 + ((1 : Nat) : Int) * 86400 + (rd_T70 l 0).f0) = startT l x 1 0 by
          unfold startT
          rw [show ((0 : Nat) : Int) = 0 from rfl] at hfi ⊢
          unfold wrap64; omega]
        exact ⟨_, true, rfl, change_found hg x hx 1 0 (by omega) (by omega) hbehind.1 (by rw [← hr]; exact hf) hnext, hbehind.2⟩
    · have ei : chI l.length (b + j + 1) = chI l.length (b + j) + 1 ∧ chD l.length (b + j + 1) = chD l.length (b + j) := by
        by_cases hm : b + j + 1 < l.length
        · rw [chI_lt hm, chD_lt hm, chI_lt (by omega), chD_lt (by omega)]
          exact ⟨rfl, rfl⟩
        · by_cases hm2 : b + j < l.length
          · rw [chI_lt hm2] at hwr; omega
          · rw [chI_ge (by omega), chD_ge (by omega), chI_ge (by omega), chD_ge (by omega)]
            exact ⟨by omega, rfl⟩
      have hlt : chI l.length (b + j) < l.length := chI_bd (by omega)
      rw [show wrap64 ((chI l.length (b + j) : Int) + 1) = ((chI l.length (b + j + 1) : Nat) : Int) by rw [ei.1]; unfold wrap64; omega, if_neg (by omega), if_pos (by omega), if_pos (by omega), ← ei.2]
      have hd1 : chD l.length (b + j + 1) ≤ 1 := chD_bd _ _
      by_cases hf : (rd_T70 l (chI l.length (b + j + 1))).f1 = r
      · rw [if_pos hf]
        exact ih (j + 1) k (by omega) (by omega) (by omega) (fun m h1 h2 => hstep m h1 h2 hf)
      · rw [if_neg hf]
        rw [show wrap64 (x - x % 86400 + (chD l.length (b + j + 1) : Int) * 86400 + (rd_T70 l (chI l.length (b + j + 1))).f0) = startT l x (chD l.length (b + j + 1)) (chI l.length (b + j + 1)) by unfold startT wrap64; omega]
        exact ⟨_, true, rfl, change_found hg x hx _ _ (by omega) hmi hbehind.1 (by rw [← hr]; exact hf) hnext, hbehind.2⟩
theorem change_yes {l : List S70} (hg : good l = true) (x : Int) (hx : 0 ≤ x) (hx2 : x ≤ 1099511627776) (k : Nat) (hk : 60 ≤ k) : ∃ nx ok, tariff_Change.f k l x = some (nx, ok, 0) ∧ ChangeIs l x nx ok ∧ nx ≤ x + 86400 := by
  unfold tariff_Change.f
  rw [rate_is l x k (by omega), if_pos hg, if_pos ⟨hx, hx2⟩, Option.bind_some, if_pos rfl, band_is hg x hx, Option.bind_some]
  have h1 := good_upTo_pos hg (x % 86400) (by omega)
  have h2 := upTo_le (x % 86400) l
  obtain ⟨b, hb⟩ : ∃ b, upTo (x % 86400) l = b + 1 := ⟨upTo (x % 86400) l - 1, by omega⟩
  have := change_l0 hg x hx hx2 b hb (rateAt l (x % 86400)) rfl l.length 0 k (by omega) (by have := (good_len hg).2; omega) (by omega) (fun m h1 h2 => by omega)
  have e1 : chI l.length (b + 0) = b := chI_lt (by omega)
  have e2 : chD l.length (b + 0) = 0 := chD_lt (by omega)
  rw [e1, e2] at this
  rw [hb, tmod_day x hx]
  rw [show ((b + 1 : Nat) : Int) - 1 = (b : Int) by omega, show wrap64 (x - x % 86400) = x - x % 86400 + ((0 : Nat) : Int) * 86400 by unfold wrap64; omega]
  exact this
end Go.Proofs.YtldpacphackdjaaDoor.Print
/- What the told functions of package meter and the printed Total answer, in plain words: a meter whose rate has not changed since it was cut goes on, or is cut where the rate changes; records in a chain cost the price of their seconds. Conditions: a valid tariff, times in range. -/
namespace Go.Proofs.YtldpacphackdjaaDoor.Print
open Go.RowKit Go.Proofs.YtldpacphackdjaaDoorW.PrintWords Go.Proofs.YtldpacphackdjaaDoorW.PrintLast Go.Proofs.YtldpacphackdjaaDoorW.PrintMore
set_option linter.unusedVariables false
set_option linter.unusedSimpArgs false
/-- One rate from a time up to another, both included. -/
def Cst (lb : List S70) (a b : Int) : Prop := ∀ y, a ≤ y → y ≤ b → rateAt lb (y % 86400) = rateAt lb (a % 86400)
theorem noChg_iff {lb : List S70} (hg : good lb = true) {a b : Int} (h0 : 0 ≤ a) (h1 : a ≤ 1099511627776) : noChg lb a b ↔ Cst lb a b := by
  obtain ⟨nx, ok, e, c, _⟩ := change_yes hg a h0 h1 100 (by omega)
  constructor
  · rintro (hf | ⟨n2, h | ⟨h, hlt⟩⟩)
    · intro y _ _
      rw [constant_all hg _ hf y, constant_all hg _ hf a]
    · rw [h] at e
      simp only [Option.some.injEq, Prod.mk.injEq] at e
      obtain ⟨rfl, rfl, _⟩ := e
      rcases c with ⟨hc, _⟩ | ⟨_, _, c4⟩
      · cases hc
      · exact fun y _ _ => c4 y
    · rw [h] at e
      simp only [Option.some.injEq, Prod.mk.injEq] at e
      obtain ⟨rfl, rfl, _⟩ := e
      rcases c with ⟨_, _, _, c4⟩ | ⟨hc, _⟩
      · exact fun y h2 h3 => c4 y h2 (by omega)
      · cases hc
  · intro h
    refine .inr ⟨nx, ?_⟩
    rcases c with ⟨rfl, c1, c2, c3⟩ | ⟨rfl, rfl, c3⟩
    · refine .inr ⟨e, Int.not_le.1 fun hle => c2 (h nx (by omega) hle)⟩
    · exact .inl e
theorem oneChg_of {lb : List S70} (hg : good lb = true) {a b : Int} (h0 : 0 ≤ a) (hab : a ≤ b) (h1 : b + 1 ≤ 1099511627776) (hc : Cst lb a b) (hn : ¬ noChg lb a (b + 1)) : oneChg lb a (b + 1) := by
  refine ⟨fun hf => hn (.inl hf), ⟨_, rate_ok hg a h0 (by omega) 100 (by omega)⟩, ?_, ?_⟩
  · obtain ⟨nx, ok, e, c, _⟩ := change_yes hg a h0 (by omega) 100 (by omega)
    rcases c with ⟨rfl, c1, c2, c3⟩ | ⟨rfl, rfl, c3⟩
    · have h2 : nx ≤ b + 1 := Int.not_lt.1 fun hlt => hn (.inr ⟨nx, .inr ⟨e, hlt⟩⟩)
      have h3 : ¬ nx ≤ b := fun hle => c2 (hc nx (by omega) hle)
      obtain rfl : nx = b + 1 := by omega
      exact e
    · exact absurd (.inr ⟨0, .inl e⟩) hn
  · obtain ⟨nx, ok, e, c, _⟩ := change_yes hg (b + 1) (by omega) (by omega) 100 (by omega)
    refine ⟨nx, ok, e, ?_⟩
    rcases c with ⟨rfl, c1, _⟩ | ⟨rfl, _⟩
    · exact .inr c1
    · exact .inl rfl
theorem mok_one {lb : List S70} (hg : good lb = true) {s now : Int} (h0 : 0 ≤ s) (h1 : s ≤ now) (h2 : now ≤ 1099511627776) : MOK [Mt s] lb now := by
  have hl := good_len hg
  refine ⟨rfl, by rw [check_is lb 100 (by omega), if_pos hg], by omega, h0, h1, h2⟩
theorem rateOf_at {lb : List S70} (hg : good lb = true) {s : Int} (h0 : 0 ≤ s) (h1 : s ≤ 1099511627776) : rateOf lb s = rateAt lb (s % 86400) := rateOf_is (rate_ok hg s h0 h1 100 (by omega))
/-- Advance by one second. -/
theorem advance_step {lb : List S70} (hg : good lb = true) {s now : Int} (h0 : 0 ≤ s) (h1 : s ≤ now) (h2 : now + 1 ≤ 1099511627776) (hc : Cst lb s now) :
    (meter_Advance.f [Mt s] lb (now + 1) = some ([Mt s], [], 0) ∧ Cst lb s (now + 1)) ∨ meter_Advance.f [Mt s] lb (now + 1) = some ([Mt (now + 1)], [recOf lb s (now + 1)], 0) := by
  unfold meter_Advance.f
  rw [if_pos (mok_one hg h0 (by omega) h2), show sinceOf [Mt s] = s from rfl]
  by_cases hn : noChg lb s (now + 1)
  · rw [if_pos hn]
    exact .inl ⟨rfl, (noChg_iff hg h0 (by omega)).1 hn⟩
  · rw [if_neg hn, if_pos (oneChg_of hg h0 h1 h2 hc hn)]
    exact .inr rfl
theorem cst_one (lb : List S70) (s : Int) : Cst lb s s := fun y h1 h2 => by rw [show y = s by omega]
theorem stop_step {lb : List S70} (hg : good lb = true) {s now : Int} (h0 : 0 ≤ s) (h1 : s ≤ now) (h2 : now ≤ 1099511627776) (hc : Cst lb s now) :
    meter_Stop.f [Mt s] lb 1 now = some ([], if s < now then [recOf lb s now] else [], 0) := by
  unfold meter_Stop.f
  rw [if_pos ⟨mok_one hg h0 h1 h2, rfl, (noChg_iff hg h0 (by omega)).2 hc, _, rate_ok hg s h0 (by omega) 100 (by omega)⟩, show sinceOf [Mt s] = s from rfl]
theorem start_one {s : Int} (h0 : 0 ≤ s) (h1 : s ≤ 1099511627776) : meter_Start.f [] 1 1 0 ⟨#[49]⟩ s = some ([Mt s], 0) := by
  unfold meter_Start.f
  rw [if_pos ⟨rfl, rfl, rfl, rfl, rfl, h0, h1⟩]
/-- The price of seconds at one rate. -/
theorem price_cst {lb : List S70} (hg : good lb = true) {s now : Int} (h0 : 0 ≤ s) (h1 : s ≤ now) (hc : Cst lb s (now - 1)) : totalP lb now - totalP lb s = (now - s) * rateAt lb (s % 86400) := by
  have h := totalP_flat hg s h0 (rateAt lb (s % 86400)) (now - s).toNat (fun y h2 h3 => hc y h2 (by omega))
  rw [show s + (((now - s).toNat : Nat) : Int) = now by omega, show (((now - s).toNat : Nat) : Int) = now - s by omega] at h
  exact h
/-- What Total adds, record by record. -/
def addR (p : Int × Int) (r : S98) : Int × Int := (wrap64 (p.1 + r.f7), wrap64 (p.2 + wrap64 (r.f5 - r.f4)))
theorem rd98_drop (l : List S98) (j : Nat) (hj : j < l.length) : l.drop j = rd_T98 l (j : Int) :: l.drop (j + 1) := by
  rw [List.drop_eq_getElem_cons hj]
  simp [rd_T98, List.getD_eq_getElem?_getD, List.getElem?_eq_getElem hj]
theorem total_l0 (l : List S98) (hl : l.length ≤ 1000000) (ho : ∀ r ∈ l, r.f0 = 1 ∧ r.f1 = 1) : ∀ (d j k : Nat) (u t : Int), l.length - j = d → d < k → meter_Total.l0 k 1 1 u t l (l.length : Int) (j : Int) = some ((l.drop j).foldl addR (u, t)) := by
  intro d
  induction d with
  | zero =>
    intro j k u t hd hk
    obtain ⟨k, rfl⟩ : ∃ m, k = m + 1 := ⟨k - 1, by omega⟩
    simp only [meter_Total.l0]
    rw [if_neg (by omega), List.drop_of_length_le (by omega)]
    rfl
  | succ d ih =>
    intro j k u t hd hk
    obtain ⟨k, rfl⟩ : ∃ m, k = m + 1 := ⟨k - 1, by omega⟩
    have hj : j < l.length := by omega
    have hm : rd_T98 l (j : Int) ∈ l := by
      have h := rd98_drop l j hj
      exact List.mem_of_mem_drop (i := j) (by rw [h]; exact List.mem_cons_self)
    simp only [meter_Total.l0]
    rw [if_pos (by omega), if_pos (by omega), if_pos (by omega), if_pos (ho _ hm).1, if_pos (ho _ hm).2, show wrap64 ((j : Int) + 1) = ((j + 1 : Nat) : Int) by unfold wrap64; omega, ih (j + 1) k _ _ (by omega) (by omega), rd98_drop l j hj]
    rfl
theorem total_is (l : List S98) (hl : l.length ≤ 1000000) (ho : ∀ r ∈ l, r.f0 = 1 ∧ r.f1 = 1) (k : Nat) (hk : l.length < k) : meter_Total.f k l 1 1 = some (l.foldl addR (0, 0)) := by
  unfold meter_Total.f
  have h := total_l0 l hl ho l.length 0 k 0 0 (by omega) hk
  rw [show ((0 : Nat) : Int) = 0 from rfl] at h
  rw [h]
  rfl
/-- The records of the one meter from a time to another: they are its own, and cost the price of the seconds. -/
structure Chain (lb : List S70) (a b : Int) (l : List S98) : Prop where
  le : a ≤ b
  ones : ∀ r ∈ l, r.f0 = 1 ∧ r.f1 = 1
  sum : l.foldl addR (0, 0) = (totalP lb b - totalP lb a, b - a)
theorem Chain.nil (lb : List S70) (a : Int) : Chain lb a a [] := ⟨Int.le_refl a, (fun r hr => (by cases hr)), (by simp)⟩
/-- One record more, at one rate. -/
theorem Chain.snoc {lb : List S70} (hg : good lb = true) {a s b : Int} {l : List S98} (h0 : 0 ≤ a) (hc : Chain lb a s l) (h1 : s ≤ b) (hb : b ≤ 1000000000) (hcst : Cst lb s (b - 1)) : Chain lb a b (l ++ [recOf lb s b]) := by
  have hle := hc.le
  refine ⟨by omega, fun r hr => ?_, ?_⟩
  · rcases List.mem_append.1 hr with hr | hr
    · exact hc.ones r hr
    · rw [List.mem_singleton.1 hr]
      exact ⟨rfl, rfl⟩
  · rw [List.foldl_append, hc.sum]
    have hp := price_cst hg (by omega) h1 hcst
    have hr := rateAt_bd hg (s % 86400)
    have b1 := mul_bd (b - s) (rateAt lb (s % 86400)) (by omega) hr.1 hr.2
    have b2 := totalP_bd hg s (by omega)
    have b3 := totalP_bd hg a h0
    have b4 := totalP_mono hg a s h0 hle
    show (wrap64 (totalP lb s - totalP lb a + wrap64 (rateOf lb s * wrap64 (b - s))), wrap64 (s - a + wrap64 (b - s))) = _
    rw [rateOf_at hg (by omega) (by omega), show wrap64 (b - s) = b - s by unfold wrap64; omega, Int.mul_comm (rateAt lb (s % 86400)) (b - s)]
    generalize (b - s) * rateAt lb (s % 86400) = pr at *
    generalize totalP lb b = tb at *
    generalize totalP lb s = ts at *
    generalize totalP lb a = ta at *
    rw [show wrap64 pr = pr by unfold wrap64; omega, show wrap64 (ts - ta + pr) = tb - ta by unfold wrap64; omega, show wrap64 (s - a + (b - s)) = b - a by unfold wrap64; omega]
end Go.Proofs.YtldpacphackdjaaDoor.Print
/- Plain facts on lists of holds: sorted by call, where a call stands, what Find, Few and Same answer; a hold taken out, put in, replaced. Conditions: enough rounds; lists no longer than a million. -/
namespace Go.Proofs.YtldpacphackdjaaDoor.Print
open Go.RowKit Go.Proofs.YtldpacphackdjaaDoorW.PrintWords Go.Proofs.YtldpacphackdjaaDoorW.PrintLast Go.Proofs.YtldpacphackdjaaDoorW.PrintMore
set_option linter.unusedVariables false
set_option linter.unusedSimpArgs false

theorem hFrom_le {p q : Int} (h : q ≤ p) : ∀ {l : List S54}, hFrom p l = true → hFrom q l = true
  | [], _ => rfl
  | a :: t, h2 => by
    simp only [hFrom, Bool.and_eq_true] at h2 ⊢
    refine ⟨?_, h2.2⟩
    have := h2.1
    unfold holdB at this ⊢
    simp only [Bool.and_eq_true, decide_eq_true_eq] at this ⊢
    omega
/-- The last call of a list, or p. -/
def lastF : Int → List S54 → Int
  | p, [] => p
  | _, h :: t => lastF h.f0 t
theorem hFrom_append : ∀ (A B : List S54) (p : Int), hFrom p (A ++ B) = (hFrom p A && hFrom (lastF p A) B)
  | [], B, p => by simp [hFrom, lastF]
  | a :: t, B, p => by simp only [List.cons_append, hFrom, lastF, hFrom_append t B, Bool.and_assoc]
theorem holdB_iff (p : Int) (z : S54) : holdB p z = true ↔ ((1 ≤ z.f0 ∧ z.f0 ≤ 1099511627776) ∧ p < z.f0 ∧ (0 ≤ z.f1 ∧ z.f1 ≤ 1099511627776) ∧ (0 ≤ z.f2 ∧ z.f2 ≤ 1099511627776)) := by
  unfold holdB
  simp only [Bool.and_eq_true, decide_eq_true_eq]
  omega
theorem lastF_lt : ∀ (A : List S54) (p ref : Int), p < ref → (∀ x ∈ A, x.f0 < ref) → lastF p A < ref
  | [], p, ref, h, _ => h
  | a :: t, p, ref, h, hx => lastF_lt t a.f0 ref (hx a (by simp)) (fun x hx2 => hx x (by simp [hx2]))
theorem split_at (l : List S54) (i : Nat) (h : i < l.length) : l = l.take i ++ rd_T54 l (i : Int) :: l.drop (i + 1) := by
  rw [← dropH_at l i h, List.take_append_drop]
theorem hFrom_split {p : Int} {l : List S54} (h : hFrom p l = true) (i : Nat) (hi : i < l.length) : hFrom p (l.take i) = true ∧ holdB (lastF p (l.take i)) (rd_T54 l (i : Int)) = true ∧ hFrom (rd_T54 l (i : Int)).f0 (l.drop (i + 1)) = true := by
  have e := split_at l i hi
  generalize hA : l.take i = A at *
  generalize hB : l.drop (i + 1) = B at *
  generalize hz : rd_T54 l (i : Int) = z at *
  rw [e, hFrom_append, Bool.and_eq_true] at h
  simp only [hFrom, Bool.and_eq_true] at h
  exact ⟨h.1, h.2.1, h.2.2⟩
theorem hFrom_lt {p : Int} {l : List S54} (h : hFrom p l = true) (i j : Nat) (hij : i < j) (hj : j < l.length) : (rd_T54 l (i : Int)).f0 < (rd_T54 l (j : Int)).f0 := by
  refine hFrom_above _ _ (hFrom_split h i (by omega)).2.2 _ ?_
  rw [rdH_is l j hj]
  have e : (l.drop (i + 1))[j - (i + 1)]? = some l[j] := by
    rw [List.getElem?_drop, show i + 1 + (j - (i + 1)) = j by omega, List.getElem?_eq_getElem hj]
  exact List.mem_of_getElem? e
theorem found_iff {p : Int} {l : List S54} (h : hFrom p l = true) (ref : Int) : foundH ref l = true ↔ ∃ i : Nat, i < l.length ∧ (rd_T54 l (i : Int)).f0 = ref := by
  constructor
  · intro hf
    unfold foundH at hf
    simp only [Bool.and_eq_true, decide_eq_true_eq] at hf
    exact ⟨_, hf.1, hf.2⟩
  · rintro ⟨i, hi, e⟩
    have hpl : placeH ref l ≤ i := by
      have := mt (placeH_at ref l p h i hi).2 (by omega)
      omega
    have : placeH ref l = i := by
      refine Nat.le_antisymm hpl (Nat.not_lt.1 fun hlt => ?_)
      have h1 := hFrom_lt h _ i hlt hi
      have h2 := (placeH_at ref l p h (placeH ref l) (by omega)).1 (by omega)
      omega
    unfold foundH
    rw [this]
    simp [hi, e]
theorem sumU_append (A B : List S54) : sumU (A ++ B) = sumU A + sumU B := by unfold sumU; simp
theorem sumU_cons (a : S54) (B : List S54) : sumU (a :: B) = a.f1 + sumU B := by unfold sumU; simp
theorem sumU_split (l : List S54) (i : Nat) (hi : i < l.length) : sumU l = sumU (l.take i) + ((rd_T54 l (i : Int)).f1 + sumU (l.drop (i + 1))) := by
  have e := congrArg sumU (split_at l i hi)
  rw [sumU_append, sumU_cons] at e
  exact e
theorem sumU_drop (l : List S54) (i : Nat) (hi : i < l.length) : sumU (dropH i l) = sumU l - (rd_T54 l (i : Int)).f1 := by
  unfold dropH
  rw [sumU_append, sumU_split l i hi]
  omega
theorem sumU_set (l : List S54) (i : Nat) (hi : i < l.length) (x : S54) : sumU (l.set i x) = sumU l - (rd_T54 l (i : Int)).f1 + x.f1 := by
  rw [List.set_eq_take_append_cons_drop, if_pos hi, sumU_append, sumU_cons, sumU_split l i hi]
  omega
theorem sumU_put (l : List S54) (i : Nat) (x : S54) : sumU (l.take i ++ x :: l.drop i) = sumU l + x.f1 := by
  have e := congrArg sumU (List.take_append_drop i l)
  rw [sumU_append] at e
  rw [sumU_append, sumU_cons]
  omega
theorem hFrom_drop {p : Int} {l : List S54} (h : hFrom p l = true) (i : Nat) (hi : i < l.length) : hFrom p (dropH i l) = true := by
  obtain ⟨h1, h2, h3⟩ := hFrom_split h i hi
  unfold dropH
  rw [hFrom_append, h1, Bool.true_and]
  exact hFrom_le (by have := ((holdB_iff _ _).1 h2).2.1; omega) h3
theorem hFrom_set {p : Int} {l : List S54} (h : hFrom p l = true) (i : Nat) (hi : i < l.length) (x : S54) (h0 : x.f0 = (rd_T54 l (i : Int)).f0) (h1 : 0 ≤ x.f1 ∧ x.f1 ≤ 1099511627776) (h2 : 0 ≤ x.f2 ∧ x.f2 ≤ 1099511627776) : hFrom p (l.set i x) = true := by
  obtain ⟨g1, g2, g3⟩ := hFrom_split h i hi
  rw [List.set_eq_take_append_cons_drop, if_pos hi, hFrom_append, g1, Bool.true_and]
  simp only [hFrom, Bool.and_eq_true]
  have g4 := (holdB_iff _ _).1 g2
  refine ⟨(holdB_iff _ _).2 ⟨by omega, by omega, h1, h2⟩, ?_⟩
  rw [h0]
  exact g3
theorem take_below {p : Int} {l : List S54} (h : hFrom p l = true) (ref : Int) : ∀ x ∈ l.take (placeH ref l), x.f0 < ref := by
  intro x hx
  obtain ⟨j, hj, e⟩ := List.getElem_of_mem hx
  have hj2 : j < placeH ref l ∧ j < l.length := by
    rw [List.length_take] at hj
    omega
  have := (placeH_at ref l p h j hj2.2).2 hj2.1
  rw [rdH_is l j hj2.2] at this
  rw [← e, List.getElem_take]
  exact this
theorem hFrom_put {l : List S54} (h : hFrom 0 l = true) (x : S54) (hx : holdB 0 x = true) (hn : foundH x.f0 l = false) : hFrom 0 (l.take (placeH x.f0 l) ++ x :: l.drop (placeH x.f0 l)) = true := by
  have hb := (holdB_iff _ _).1 hx
  have ht : hFrom 0 (l.take (placeH x.f0 l)) = true := by
    have := h
    rw [← List.take_append_drop (placeH x.f0 l) l, hFrom_append, Bool.and_eq_true] at this
    exact this.1
  rw [hFrom_append, ht, Bool.true_and]
  simp only [hFrom, Bool.and_eq_true]
  refine ⟨(holdB_iff _ _).2 ⟨hb.1, lastF_lt _ _ _ (by omega) (take_below h x.f0), hb.2.2⟩, ?_⟩
  by_cases hi : placeH x.f0 l < l.length
  · obtain ⟨g1, g2, g3⟩ := hFrom_split h _ hi
    rw [dropH_at l _ hi]
    simp only [hFrom, Bool.and_eq_true]
    have g4 := (holdB_iff _ _).1 g2
    refine ⟨(holdB_iff _ _).2 ⟨g4.1, ?_, g4.2.2⟩, g3⟩
    have n1 : ¬ (rd_T54 l (placeH x.f0 l : Int)).f0 < x.f0 := fun hlt => by
      have := (placeH_at x.f0 l 0 h _ hi).1 hlt
      omega
    have n2 : (rd_T54 l (placeH x.f0 l : Int)).f0 ≠ x.f0 := fun e => by
      have := (found_iff h x.f0).2 ⟨_, hi, e⟩
      rw [hn] at this
      cases this
    omega
  · rw [List.drop_of_length_le (by omega)]
    rfl
theorem length_put (l : List S54) (i : Nat) (hi : i ≤ l.length) (x : S54) : (l.take i ++ x :: l.drop i).length = l.length + 1 := by
  simp
  omega
theorem rd_put (l : List S54) (i : Nat) (hi : i ≤ l.length) (x : S54) : rd_T54 (l.take i ++ x :: l.drop i) (i : Int) = x := by
  rw [rdH_is _ i (by rw [length_put l i hi]; omega)]
  rw [List.getElem_append_right (by simp; omega)]
  simp [Nat.min_eq_left hi]
theorem mem_rd (l : List S54) (i : Nat) (hi : i < l.length) : rd_T54 l (i : Int) ∈ l := by
  rw [rdH_is l i hi]
  exact List.getElem_mem hi
theorem found_at {ref : Int} {l : List S54} (hf : foundH ref l = true) : (rd_T54 l (placeH ref l : Int)).f0 = ref := by
  unfold foundH at hf
  simp only [Bool.and_eq_true, decide_eq_true_eq] at hf
  exact hf.2

end Go.Proofs.YtldpacphackdjaaDoor.Print
/- Plain facts on accounts: what Reserve, Settle and Deposit make of a valid account is a valid account. -/
namespace Go.Proofs.YtldpacphackdjaaDoor.Print
open Go.RowKit Go.Proofs.YtldpacphackdjaaDoorW.PrintWords Go.Proofs.YtldpacphackdjaaDoorW.PrintLast Go.Proofs.YtldpacphackdjaaDoorW.PrintMore
set_option linter.unusedVariables false
set_option linter.unusedSimpArgs false

/-- What Settle leaves of the balance. -/
def restB (b u used : Int) : Int := mx 0 (wrap64 (b + u - used))
theorem settle_ok {s : ByteArray} {b : Int} {l : List S54} (h : Acc s b l) (ref used : Int) (hu : 0 ≤ used) (hf : foundH ref l = true) :
    prepaid_Settle.f s b l ref used = some (s, restB b (rd_T54 l (placeH ref l : Int)).f1 used, dropH (placeH ref l) l, 0) := by
  unfold prepaid_Settle.f restB
  rw [if_pos ((pchk_zero s b l).2 h), if_neg (by omega), if_pos hf]
theorem units_bd {s : ByteArray} {b : Int} {l : List S54} (h : Acc s b l) (i : Nat) (hi : i < l.length) : 0 ≤ (rd_T54 l (i : Int)).f1 ∧ (rd_T54 l (i : Int)).f1 ≤ 1099511627776 ∧ b + (rd_T54 l (i : Int)).f1 ≤ 1099511627776 ∧ 0 ≤ (rd_T54 l (i : Int)).f2 ∧ (rd_T54 l (i : Int)).f2 ≤ 1099511627776 := by
  have h1 := hFrom_units l 0 h.holds _ (mem_rd l i hi)
  have h2 := sumU_drop l i hi
  have h3 := (sumU_bd _ _ (hFrom_drop h.holds i hi)).1
  have h4 := h.sum
  omega
theorem restB_is {b u used : Int} (hb : 0 ≤ b) (hu : 0 ≤ u) (hs : b + u ≤ 1099511627776) (h0 : 0 ≤ used) (h1 : used ≤ 9223372036854775807) : restB b u used = mx 0 (b + u - used) := by
  unfold restB
  rw [show wrap64 (b + u - used) = b + u - used by unfold wrap64; omega]
/-- The end of the call's hold ahead of the reservation, its units, the seconds that are paid for, their price. -/
def stH (ref now : Int) (l : List S54) : Int := (atH ref now l).f2
def unH (ref now : Int) (l : List S54) : Int := (atH ref now l).f1
def secs (b : Int) (l : List S54) (tl : List S70) (ref now : Int) : Int := lasts tl b now (stH ref now l)
def cost (b : Int) (l : List S54) (tl : List S70) (ref now : Int) : Int := totalP tl (stH ref now l + secs b l tl ref now) - totalP tl (stH ref now l)
def putH (b : Int) (l : List S54) (tl : List S70) (ref now : Int) : List S54 := (withH ref now l).set (placeH ref l) ⟨ref, unH ref now l + cost b l tl ref now, stH ref now l + secs b l tl ref now⟩
theorem at_found {ref now : Int} {l : List S54} (hf : foundH ref l = true) : withH ref now l = l ∧ atH ref now l = rd_T54 l (placeH ref l : Int) := by
  have e : withH ref now l = l := by unfold withH; rw [if_pos hf]
  exact ⟨e, by unfold atH; rw [e]⟩
theorem at_new {ref now : Int} {l : List S54} (hf : foundH ref l = false) : withH ref now l = l.take (placeH ref l) ++ (⟨ref, 0, now⟩ : S54) :: l.drop (placeH ref l) ∧ atH ref now l = ⟨ref, 0, now⟩ := by
  have e : withH ref now l = l.take (placeH ref l) ++ (⟨ref, 0, now⟩ : S54) :: l.drop (placeH ref l) := by unfold withH; rw [if_neg (by rw [hf]; simp)]
  exact ⟨e, by unfold atH; rw [e]; exact rd_put l _ (placeH_le _ _) _⟩
theorem at_ref (ref now : Int) (l : List S54) : (atH ref now l).f0 = ref := by
  cases hf : foundH ref l with
  | true => rw [(at_found hf).2]; exact found_at hf
  | false => rw [(at_new hf).2]
/-- When Reserve reserves. -/
structure ROk (s : ByteArray) (b : Int) (l : List S54) (tl : List S70) (ref now : Int) : Prop where
  acc : Acc s b l
  hg : good tl = true
  ref1 : 1 ≤ ref
  ref2 : ref ≤ 1099511627776
  now1 : 0 ≤ now
  now2 : now ≤ 1099511627776
  room : ¬ (foundH ref l = false ∧ l.length = 1024)
  pos : secs b l tl ref now ≠ 0
  late : now < stH ref now l + secs b l tl ref now
theorem reserve_ok {s : ByteArray} {b : Int} {l : List S54} {tl : List S70} {ref now : Int} (h : ROk s b l tl ref now) :
    prepaid_Reserve.f s b l tl ref now = some (s, b - cost b l tl ref now, putH b l tl ref now, stH ref now l + secs b l tl ref now, 0) := by
  unfold prepaid_Reserve.f
  have h1 := h.pos
  have h2 := h.late
  unfold putH cost secs stH unH at *
  rw [if_pos ((pchk_zero s b l).2 h.acc), if_pos h.hg, if_pos ⟨h.ref1, h.ref2⟩, if_pos ⟨h.now1, h.now2⟩, if_neg h.room, if_neg (by rintro (h3 | h3); exact h1 h3; omega), at_ref]
/-- Reserve says 'no credit' where all but the seconds is well. -/
theorem reserve_credit {s : ByteArray} {b : Int} {l : List S54} {tl : List S70} {ref now : Int} (ha : Acc s b l) (hg : good tl = true) (h1 : 1 ≤ ref ∧ ref ≤ 1099511627776) (h2 : 0 ≤ now ∧ now ≤ 1099511627776) (h3 : ¬ (foundH ref l = false ∧ l.length = 1024))
    (h4 : secs b l tl ref now = 0 ∨ stH ref now l + secs b l tl ref now ≤ now) : prepaid_Reserve.f s b l tl ref now = some (⟨#[]⟩, 0, [], 0, 280) := by
  unfold prepaid_Reserve.f
  unfold secs stH at h4
  rw [if_pos ((pchk_zero s b l).2 ha), if_pos hg, if_pos h1, if_pos h2, if_neg h3, if_pos h4]
theorem st_bd {s : ByteArray} {b : Int} {l : List S54} {ref now : Int} (h : Acc s b l) (h1 : 0 ≤ now) (h2 : now ≤ 1099511627776) : 0 ≤ stH ref now l ∧ stH ref now l ≤ 1099511627776 ∧ 0 ≤ unH ref now l ∧ b + unH ref now l ≤ 1099511627776 := by
  unfold stH unH
  cases hf : foundH ref l with
  | true =>
    rw [(at_found hf).2]
    have := units_bd h _ (found_lt hf)
    omega
  | false =>
    rw [(at_new hf).2]
    have := h.bal
    show 0 ≤ now ∧ now ≤ 1099511627776 ∧ (0 : Int) ≤ 0 ∧ b + 0 ≤ 1099511627776
    omega
theorem cost_bd {s : ByteArray} {b : Int} {l : List S54} {tl : List S70} {ref now : Int} (h : Acc s b l) (hg : good tl = true) (h1 : 0 ≤ now) (h2 : now ≤ 1099511627776) :
    0 ≤ secs b l tl ref now ∧ stH ref now l + secs b l tl ref now ≤ 1099511627776 ∧ 0 ≤ cost b l tl ref now ∧ cost b l tl ref now ≤ b := by
  have hs := st_bd (ref := ref) h h1 h2
  have := lasts_bd hg b now (stH ref now l) h.bal.1 h1 h2 hs.1 hs.2.1
  exact ⟨this.1, this.2.1, this.2.2.1, this.2.2.2.1⟩
theorem withH_lt (ref now : Int) (l : List S54) : placeH ref l < (withH ref now l).length := by
  cases hf : foundH ref l with
  | true => rw [(at_found hf).1]; exact found_lt hf
  | false => rw [(at_new hf).1, length_put l _ (placeH_le _ _)]; have := placeH_le ref l; omega
theorem withH_from {s : ByteArray} {b : Int} {l : List S54} {ref now : Int} (h : Acc s b l) (h1 : 1 ≤ ref ∧ ref ≤ 1099511627776) (h2 : 0 ≤ now ∧ now ≤ 1099511627776) : hFrom 0 (withH ref now l) = true := by
  cases hf : foundH ref l with
  | true => rw [(at_found hf).1]; exact h.holds
  | false =>
    rw [(at_new hf).1]
    exact hFrom_put h.holds ⟨ref, 0, now⟩ ((holdB_iff _ _).2 ⟨h1, by show 0 < ref; omega, by show (0 : Int) ≤ 0 ∧ (0 : Int) ≤ 1099511627776; omega, h2⟩) hf
theorem withH_sum (ref now : Int) (l : List S54) : sumU (withH ref now l) = sumU l := by
  cases hf : foundH ref l with
  | true => rw [(at_found hf).1]
  | false => rw [(at_new hf).1, sumU_put]; show sumU l + 0 = sumU l; omega
theorem at_is (ref now : Int) (l : List S54) : rd_T54 (withH ref now l) (placeH ref l : Int) = atH ref now l := rfl
theorem put_sum (b : Int) (l : List S54) (tl : List S70) (ref now : Int) : sumU (putH b l tl ref now) = sumU l + cost b l tl ref now := by
  unfold putH
  rw [sumU_set _ _ (withH_lt ref now l), at_is, withH_sum]
  show sumU l - unH ref now l + (unH ref now l + cost b l tl ref now) = _
  omega
theorem put_from {s : ByteArray} {b : Int} {l : List S54} {tl : List S70} {ref now : Int} (h : ROk s b l tl ref now) : hFrom 0 (putH b l tl ref now) = true := by
  have hs := st_bd (ref := ref) h.acc h.now1 h.now2
  have hc := cost_bd (ref := ref) h.acc h.hg h.now1 h.now2
  have hb := h.acc.bal
  refine hFrom_set (withH_from h.acc ⟨h.ref1, h.ref2⟩ ⟨h.now1, h.now2⟩) _ (withH_lt ref now l) _ ?_ ?_ ?_
  · rw [at_is, at_ref]
  · show 0 ≤ unH ref now l + cost b l tl ref now ∧ unH ref now l + cost b l tl ref now ≤ 1099511627776
    omega
  · show 0 ≤ stH ref now l + secs b l tl ref now ∧ stH ref now l + secs b l tl ref now ≤ 1099511627776
    omega
theorem put_len {s : ByteArray} {b : Int} {l : List S54} {tl : List S70} {ref now : Int} (h : ROk s b l tl ref now) : (putH b l tl ref now).length ≤ 1024 ∧ (foundH ref l = true → (putH b l tl ref now).length = l.length) ∧ (foundH ref l = false → (putH b l tl ref now).length = l.length + 1) := by
  have hl := h.acc.len
  have hr := h.room
  unfold putH
  rw [List.length_set]
  cases hf : foundH ref l with
  | true => rw [(at_found hf).1]; exact ⟨hl, fun _ => rfl, fun e => (by cases e)⟩
  | false =>
    rw [(at_new hf).1, length_put l _ (placeH_le _ _)]
    have hne : l.length ≠ 1024 := fun e => hr ⟨hf, e⟩
    exact ⟨by omega, fun e => (by cases e), fun _ => rfl⟩
theorem acc_reserve {s : ByteArray} {b : Int} {l : List S54} {tl : List S70} {ref now : Int} (h : ROk s b l tl ref now) : Acc s (b - cost b l tl ref now) (putH b l tl ref now) := by
  have hc := cost_bd (ref := ref) h.acc h.hg h.now1 h.now2
  have hb := h.acc.bal
  have hs := h.acc.sum
  exact ⟨(put_len h).1, h.acc.num, by omega, put_from h, by rw [put_sum]; omega⟩
end Go.Proofs.YtldpacphackdjaaDoor.Print
/- That the printed law PrepaidChunksAffordAll answers true at every tariff, balance, call, time and number of rounds. No condition that the law itself does not guard. -/
namespace Go.Proofs.YtldpacphackdjaaDoor.Print
open Go.RowKit Go.Proofs.YtldpacphackdjaaDoorW.PrintWords Go.Proofs.YtldpacphackdjaaDoorW.PrintLast Go.Proofs.YtldpacphackdjaaDoorW.PrintMore
set_option linter.unusedVariables false
set_option linter.unusedSimpArgs false
theorem one_hold (ref sp u now : Int) : foundH ref [⟨ref, sp, u⟩] = true ∧ placeH ref [⟨ref, sp, u⟩] = 0 ∧ stH ref now [⟨ref, sp, u⟩] = u ∧ unH ref now [⟨ref, sp, u⟩] = sp ∧ withH ref now [⟨ref, sp, u⟩] = [⟨ref, sp, u⟩] := by
  have hp : placeH ref [⟨ref, sp, u⟩] = 0 := by simp [placeH]
  have hf : foundH ref [⟨ref, sp, u⟩] = true := by unfold foundH; rw [hp]; simp [rd_T54]
  have ha := (at_found (now := now) hf)
  refine ⟨hf, hp, ?_, ?_, ha.1⟩
  · unfold stH; rw [ha.2, hp]; rfl
  · unfold unH; rw [ha.2, hp]; rfl
theorem put_one (b : Int) (tl : List S70) (ref sp u now : Int) : putH b [⟨ref, sp, u⟩] tl ref now = [⟨ref, sp + cost b [⟨ref, sp, u⟩] tl ref now, u + secs b [⟨ref, sp, u⟩] tl ref now⟩] := by
  obtain ⟨h1, h2, h3, h4, h5⟩ := one_hold ref sp u now
  unfold putH
  rw [h5, h2, h3, h4]
  rfl
theorem no_hold (ref now : Int) : foundH ref [] = false ∧ placeH ref [] = 0 ∧ stH ref now [] = now ∧ unH ref now [] = 0 ∧ withH ref now [] = [⟨ref, 0, now⟩] := by
  have hp : placeH ref [] = 0 := by simp [placeH]
  have hf : foundH ref [] = false := by unfold foundH; simp
  have ha := (at_new (now := now) hf)
  refine ⟨hf, hp, ?_, ?_, by rw [ha.1, hp]; rfl⟩
  · unfold stH; rw [ha.2]
  · unfold unH; rw [ha.2]
theorem put_none (b : Int) (tl : List S70) (ref now : Int) : putH b [] tl ref now = [⟨ref, 0 + cost b [] tl ref now, now + secs b [] tl ref now⟩] := by
  obtain ⟨h1, h2, h3, h4, h5⟩ := no_hold ref now
  unfold putH
  rw [h5, h2, h3, h4]
  rfl
theorem lim_thirty (u : Int) (h0 : 0 ≤ u) (h1 : u + 30 ≤ 1099511627776) : limOf u u = 30 := by
  unfold limOf mn mx
  split <;> split <;> omega
end Go.Proofs.YtldpacphackdjaaDoor.Print
/- That the printed law TopPrepaid answers true at every tariff, balance, start and number of seconds. No condition that the law itself does not guard. -/
namespace Go.Proofs.YtldpacphackdjaaDoor.Print
open Go.RowKit Go.Proofs.YtldpacphackdjaaDoorW.PrintWords Go.Proofs.YtldpacphackdjaaDoorW.PrintLast Go.Proofs.YtldpacphackdjaaDoorW.PrintMore
set_option linter.unusedVariables false
set_option linter.unusedSimpArgs false
/-- The account's one hold: what has been reserved for the seconds from S to u. -/
def heldT (tl : List S70) (S u : Int) : List S54 := [⟨1, totalP tl u - totalP tl S, u⟩]
theorem top_j3 {tl : List S70} (hg : good tl = true) (B S since now u most : Int) (recs : List S98) (h0 : 0 ≤ S) (h1 : S ≤ 1000000) (hn : now ≤ S + 400) (hb0 : 0 ≤ B) (hb1 : B ≤ 1000000) (hs : S ≤ since) (hsn : since ≤ now) (hu : now ≤ u) (hc : Cst tl since now) (hch : Chain tl S since recs) (hl : (recs.length : Int) ≤ now - S)
    (ha : Acc ⟨#[49]⟩ (B - (totalP tl u - totalP tl S)) (heldT tl S u)) (hm : most = now - S) (k : Nat) (hk : 1000 ≤ k) :
    crossbartop_TopPrepaid.j3 k B S most [Mt since] recs now tl ⟨#[49]⟩ (B - (totalP tl u - totalP tl S)) (heldT tl S u) = some true := by
  obtain ⟨k, rfl⟩ : ∃ i, k = i + 1 := ⟨k - 1, by omega⟩
  obtain ⟨last, hlast⟩ : ∃ last, (if since < now then [recOf tl since now] else []) = last := ⟨_, rfl⟩
  have hll : last.length ≤ 1 := by rw [← hlast]; split <;> simp
  have hch2 : Chain tl S now (recs ++ last) := by
    rw [← hlast]
    by_cases hlt : since < now
    · rw [if_pos hlt]
      exact Chain.snoc hg h0 hch hsn (by omega) (fun y h2 h3 => hc y h2 (by omega))
    · rw [if_neg hlt, List.append_nil]
      obtain rfl : since = now := by omega
      exact hch
  have hlen : (recs ++ last).length ≤ 401 := by rw [List.length_append]; omega
  have b1 := totalP_mono hg S now h0 (by omega)
  have b2 := totalP_mono hg now u (by omega) hu
  have b3 := totalP_bd hg S h0
  have b4 := totalP_bd hg u (by omega)
  have hbal := ha.bal
  have hsum := ha.sum
  obtain ⟨q1, q2, _⟩ := one_hold 1 (totalP tl u - totalP tl S) u now
  simp only [crossbartop_TopPrepaid.j3]
  rw [stop_step hg (by omega) hsn (by omega) hc, Option.bind_some, hlast]
  simp only
  rw [if_pos (by omega), total_is (recs ++ last) (by omega) hch2.ones k (by omega), Option.bind_some, hch2.sum, price_ok hg S now h0 (by omega) (by omega) k (by omega), Option.bind_some]
  simp only
  rw [settle_ok ha 1 (totalP tl now - totalP tl S) (by omega) (by unfold heldT; exact q1), Option.bind_some]
  simp only
  rw [if_pos trivial, if_pos trivial, if_pos trivial, if_neg (by simp), show wrap64 (now - S) = now - S by unfold wrap64; omega, if_pos rfl, if_pos trivial, if_pos hm.symm]
  unfold heldT
  rw [q2, show rd_T54 [(⟨1, totalP tl u - totalP tl S, u⟩ : S54)] ((0 : Nat) : Int) = ⟨1, totalP tl u - totalP tl S, u⟩ from rfl, show dropH 0 [(⟨1, totalP tl u - totalP tl S, u⟩ : S54)] = [] from rfl, if_pos (by simp)]
  simp only
  rw [restB_is hbal.1 (by omega) (by omega) (by omega) (by omega), show wrap64 (B - (totalP tl now - totalP tl S)) = B - (totalP tl now - totalP tl S) by unfold wrap64; omega]
  rw [show mx 0 (B - (totalP tl u - totalP tl S) + (totalP tl u - totalP tl S) - (totalP tl now - totalP tl S)) = B - (totalP tl now - totalP tl S) by unfold mx; split <;> omega]
  simp
theorem top_adv {tl : List S70} (hg : good tl = true) (B S N most since now u : Int) (recs : List S98) (h0 : 0 ≤ S) (h1 : S ≤ 1000000) (hn : now ≤ S + 400) (hs : S ≤ since) (hsn : since ≤ now) (hc : Cst tl since now) (hch : Chain tl S since recs) (hl : (recs.length : Int) ≤ now - S) (s : ByteArray) (b : Int) (l : List S54) (k : Nat)
    (ih : ∀ (s2 : Int) (r2 : List S98), S ≤ s2 → s2 ≤ now + 1 → Cst tl s2 (now + 1) → Chain tl S s2 r2 → (r2.length : Int) ≤ now + 1 - S → crossbartop_TopPrepaid.l0 k B S N most u [Mt s2] r2 (now + 1) tl s b l = some true) :
    ((meter_Advance.f [Mt since] tl (wrap64 (now + 1))).bind fun bt => (if bt.2.2 = 0 then (if recs.length + bt.2.1.length < 1954687338268 then (crossbartop_TopPrepaid.l0 k B S N most u bt.1 (recs ++ bt.2.1) (wrap64 (now + 1)) tl s b l) else (none)) else (some false))) = some true := by
  rw [show wrap64 (now + 1) = now + 1 by unfold wrap64; omega]
  rcases advance_step hg (by omega) hsn (by omega) hc with ⟨e, hc2⟩ | e
  · rw [e, Option.bind_some]
    simp only
    rw [if_pos trivial, if_pos (by simp only [List.length_nil]; omega), List.append_nil]
    exact ih since recs hs (by omega) hc2 hch (by omega)
  · rw [e, Option.bind_some]
    simp only
    rw [if_pos trivial, if_pos (by simp only [List.length_singleton]; omega)]
    exact ih (now + 1) _ (by omega) (by omega) (cst_one _ _) (Chain.snoc hg h0 hch (by omega) (by omega) (fun y h2 h3 => hc y h2 (by omega))) (by rw [List.length_append, List.length_singleton]; omega)
theorem top_l0 {tl : List S70} (hg : good tl = true) (B S N most : Int) (h0 : 0 ≤ S) (h1 : S ≤ 1000000) (hN0 : 0 ≤ N) (hN1 : N ≤ 400) (hb0 : 0 ≤ B) (hb1 : B ≤ 1000000) (hmost : most = (affN tl S B N.toNat : Int)) :
    ∀ (d k : Nat) (since now u : Int) (recs : List S98), (S + N - now).toNat = d → d + 2000 ≤ k → S ≤ since → since ≤ now → now ≤ S + N → now ≤ u → u ≤ now + 30 → Cst tl since now → Chain tl S since recs → (recs.length : Int) ≤ now - S → Acc ⟨#[49]⟩ (B - (totalP tl u - totalP tl S)) (heldT tl S u) →
    crossbartop_TopPrepaid.l0 k B S N most u [Mt since] recs now tl ⟨#[49]⟩ (B - (totalP tl u - totalP tl S)) (heldT tl S u) = some true := by
  intro d
  induction d with
  | zero =>
    intro k since now u recs hd hk hs hsn hnN hu hu30 hc hch hl ha
    obtain ⟨k, rfl⟩ : ∃ i, k = i + 1 := ⟨k - 1, by omega⟩
    have b2 := totalP_mono hg now u (by omega) hu
    have hbal := ha.bal
    obtain rfl : now = S + N := by omega
    simp only [crossbartop_TopPrepaid.l0]
    rw [show wrap64 (S + N) = S + N by unfold wrap64; omega, if_neg (by omega)]
    refine top_j3 hg B S since (S + N) u most recs h0 h1 (by omega) hb0 hb1 hs hsn hu hc hch hl ha ?_ k (by omega)
    rw [hmost, affN_unique hg S B h0 hb0 N.toNat N.toNat (Nat.le_refl _) (by rw [show S + ((N.toNat : Nat) : Int) = S + N by omega]; omega) (fun h => by omega)]
    omega
  | succ d ih =>
    intro k since now u recs hd hk hs hsn hnN hu hu30 hc hch hl ha
    obtain ⟨k, rfl⟩ : ∃ i, k = i + 1 := ⟨k - 1, by omega⟩
    have hbal := ha.bal
    simp only [crossbartop_TopPrepaid.l0]
    rw [show wrap64 (S + N) = S + N by unfold wrap64; omega, if_pos (by omega)]
    by_cases hge : now ≥ u
    · obtain rfl : now = u := by omega
      rw [if_pos hge]
      obtain ⟨q1, q2, q3, q4, q5⟩ := one_hold 1 (totalP tl now - totalP tl S) now now
      have hlim := lim_thirty now (by omega) (by omega)
      have hsec : secs (B - (totalP tl now - totalP tl S)) (heldT tl S now) tl 1 now = (affN tl now (B - (totalP tl now - totalP tl S)) 30 : Int) := by
        unfold secs lasts heldT
        rw [q3, hlim]
        rfl
      by_cases hok : ROk ⟨#[49]⟩ (B - (totalP tl now - totalP tl S)) (heldT tl S now) tl 1 now
      · have ha2 := acc_reserve hok
        have hcost : cost (B - (totalP tl now - totalP tl S)) (heldT tl S now) tl 1 now = totalP tl (now + (affN tl now (B - (totalP tl now - totalP tl S)) 30 : Int)) - totalP tl now := by
          unfold cost
          rw [hsec]
          unfold heldT
          rw [q3]
        have hput : putH (B - (totalP tl now - totalP tl S)) (heldT tl S now) tl 1 now = [⟨1, totalP tl now - totalP tl S + cost (B - (totalP tl now - totalP tl S)) (heldT tl S now) tl 1 now, now + secs (B - (totalP tl now - totalP tl S)) (heldT tl S now) tl 1 now⟩] := put_one _ tl 1 _ now now
        have hpos := hok.pos
        have hle := affN_le tl now (B - (totalP tl now - totalP tl S)) 30
        rw [hput, hsec, hcost] at ha2
        rw [hsec] at hpos
        rw [reserve_ok hok, Option.bind_some]
        simp only
        rw [if_pos trivial, hput, hsec, hcost, show stH 1 now (heldT tl S now) = now from q3]
        generalize affN tl now (B - (totalP tl now - totalP tl S)) 30 = j at *
        rw [show B - (totalP tl now - totalP tl S) - (totalP tl (now + (j : Int)) - totalP tl now) = B - (totalP tl (now + (j : Int)) - totalP tl S) by omega, show totalP tl now - totalP tl S + (totalP tl (now + (j : Int)) - totalP tl now) = totalP tl (now + (j : Int)) - totalP tl S by omega] at ha2 ⊢
        exact top_adv hg B S N most since now (now + (j : Int)) recs h0 h1 (by omega) hs hsn hc hch hl _ _ _ k (fun s2 r2 z1 z2 z3 z4 z5 => ih k s2 (now + 1) (now + (j : Int)) r2 (by omega) (by omega) z1 z2 (by omega) (by omega) (by omega) z3 z4 z5 ha2)
      · have hz : secs (B - (totalP tl now - totalP tl S)) (heldT tl S now) tl 1 now = 0 := by
          refine Classical.byContradiction fun hne => hok ⟨ha, hg, by omega, by omega, by omega, by omega, (fun h => by have := h.1; rw [show foundH 1 (heldT tl S now) = true from q1] at this; cases this), hne, ?_⟩
          rw [show stH 1 now (heldT tl S now) = now from q3]
          have : (0 : Int) ≤ secs (B - (totalP tl now - totalP tl S)) (heldT tl S now) tl 1 now := by rw [hsec]; omega
          omega
        rw [reserve_credit ha hg ⟨by omega, by omega⟩ ⟨by omega, by omega⟩ (fun h => by have := h.1; rw [show foundH 1 (heldT tl S now) = true from q1] at this; cases this) (.inl hz), Option.bind_some]
        simp only
        rw [if_neg (by omega)]
        refine top_j3 hg B S since now now most recs h0 h1 (by omega) hb0 hb1 hs hsn hu hc hch hl ha ?_ k (by omega)
        rw [hsec] at hz
        have hmx := affN_max hg now (B - (totalP tl now - totalP tl S)) (by omega) 30 (by omega)
        rw [show affN tl now (B - (totalP tl now - totalP tl S)) 30 = 0 by omega, show now + ((0 : Nat) : Int) + 1 = now + 1 by omega] at hmx
        rw [hmost, affN_unique hg S B h0 hb0 N.toNat (now - S).toNat (by omega) (by rw [show S + (((now - S).toNat : Nat) : Int) = now by omega]; omega) (fun _ => by rw [show S + (((now - S).toNat : Nat) : Int) = now by omega]; omega)]
        omega
    · rw [if_neg hge]
      exact top_adv hg B S N most since now u recs h0 h1 (by omega) hs hsn hc hch hl _ _ _ k (fun s2 r2 z1 z2 z3 z4 z5 => ih k s2 (now + 1) u r2 (by omega) (by omega) z1 z2 (by omega) (by omega) (by omega) z3 z4 z5 ha)
theorem one_num : numB ⟨#[49]⟩ = true := by kernel_rfl
theorem top_j1 {tl : List S70} (hg : good tl = true) (B S N : Int) (h0 : 0 ≤ S) (h1 : S ≤ 1000000) (hN0 : 0 ≤ N) (hN1 : N ≤ 400) (hb0 : 0 ≤ B) (hb1 : B ≤ 1000000) (k : Nat) (hk : 5000 ≤ k) :
    crossbartop_TopPrepaid.j1 k B S N (affN tl S B N.toNat : Int) false tl = some true := by
  obtain ⟨k, rfl⟩ : ∃ i, k = i + 1 := ⟨k - 1, by omega⟩
  have ha0 : Acc ⟨#[49]⟩ B [] := ⟨by simp, one_num, ⟨hb0, by omega⟩, rfl, by simp [sumU]; omega⟩
  obtain ⟨q1, q2, q3, q4, q5⟩ := no_hold 1 S
  have hlim := lim_thirty S h0 (by omega)
  have hsec : secs B [] tl 1 S = (affN tl S B 30 : Int) := by
    unfold secs lasts
    rw [q3, hlim]
    rfl
  simp only [crossbartop_TopPrepaid.j1]
  rw [if_neg (by simp)]
  by_cases hok : ROk ⟨#[49]⟩ B [] tl 1 S
  · have ha2 := acc_reserve hok
    have hcost : cost B [] tl 1 S = totalP tl (S + (affN tl S B 30 : Int)) - totalP tl S := by
      unfold cost
      rw [hsec, q3]
    have hle := affN_le tl S B 30
    rw [put_none, hsec, hcost, show (0 : Int) + (totalP tl (S + (affN tl S B 30 : Int)) - totalP tl S) = totalP tl (S + (affN tl S B 30 : Int)) - totalP tl S by omega] at ha2
    rw [reserve_ok hok, Option.bind_some, afford_ok hg S B 1 h0 (by omega) hb0 (by omega) (by omega), Option.bind_some]
    simp only
    rw [if_pos trivial, start_one h0 (by omega), Option.bind_some]
    simp only
    rw [if_pos trivial, put_none, hsec, hcost, q3, show (0 : Int) + (totalP tl (S + (affN tl S B 30 : Int)) - totalP tl S) = totalP tl (S + (affN tl S B 30 : Int)) - totalP tl S by omega]
    exact top_l0 hg B S N _ h0 h1 hN0 hN1 hb0 hb1 rfl _ k S S (S + (affN tl S B 30 : Int)) [] rfl (by omega) (by omega) (by omega) (by omega) (by omega) (by omega) (cst_one _ _) (Chain.nil _ _) (by simp) ha2
  · have hz : secs B [] tl 1 S = 0 := by
      refine Classical.byContradiction fun hne => hok ⟨ha0, hg, by omega, by omega, by omega, by omega, (fun h => by have := h.2; simp at this), hne, ?_⟩
      rw [q3]
      have : (0 : Int) ≤ secs B [] tl 1 S := by rw [hsec]; omega
      omega
    rw [reserve_credit ha0 hg ⟨by omega, by omega⟩ ⟨by omega, by omega⟩ (fun h => by have := h.2; simp at this) (.inl hz), Option.bind_some, afford_ok hg S B 1 h0 (by omega) hb0 (by omega) (by omega), Option.bind_some]
    simp only
    rw [if_neg (by omega), if_pos trivial, if_pos trivial]
    rw [hsec] at hz
    have hmx := affN_max hg S B h0 30 (by omega)
    rw [show affN tl S B 30 = 0 by omega] at hmx
    rw [show (1 : Int).toNat = 1 from rfl, affN_unique hg S B h0 hb0 1 0 (by omega) (by rw [show S + ((0 : Nat) : Int) = S by omega]; omega) (fun _ => hmx)]
    rfl
theorem top_skip (k : Nat) (B S N : Int) (tl : List S70) : crossbartop_TopPrepaid.j0 (k + 1) B S N true tl = some true := by
  simp only [crossbartop_TopPrepaid.j0]
  rw [if_pos trivial]
theorem TopPrepaid_pure (tl : List S70) (B S N : Int) (hn1 : tl.length ≤ 9223372036854775807) (hw1 : ∀ x ∈ tl, Rng x.f0 ∧ Rng x.f1) (w1 : (Lit.int .i64 B).wf = true) (w2 : (Lit.int .i64 S).wf = true) (w3 : (Lit.int .i64 N).wf = true) : ∃ k, crossbartop_TopPrepaid.f k tl B S N = some true := by
  refine ⟨6000, ?_⟩
  have sk := top_skip 5999 B S N tl
  unfold crossbartop_TopPrepaid.f
  by_cases h1 : (tl.length : Int) > 30
  · rw [if_pos h1]; exact sk
  rw [if_neg h1, check_is tl 6000 (by omega), Option.bind_some]
  by_cases hg : good tl = true
  · rw [if_pos hg, if_pos rfl]
    by_cases c1 : B < 0
    · rw [if_pos c1]; exact sk
    rw [if_neg c1]
    by_cases c2 : B > 1000000
    · rw [if_pos c2]; exact sk
    rw [if_neg c2]
    by_cases c3 : S < 0
    · rw [if_pos c3]; exact sk
    rw [if_neg c3]
    by_cases c4 : S > 1000000
    · rw [if_pos c4]; exact sk
    rw [if_neg c4]
    by_cases c5 : N < 0
    · rw [if_pos c5]; exact sk
    rw [if_neg c5]
    by_cases c6 : N > 400
    · rw [decide_eq_true c6]; exact sk
    rw [decide_eq_false c6]
    have hle := affN_le tl S B N.toNat
    simp only [crossbartop_TopPrepaid.j0]
    rw [if_neg (by simp), afford_ok hg S B N (by omega) (by omega) (by omega) (by omega) (by omega), Option.bind_some]
    simp only
    rw [if_pos trivial, decide_eq_false (by omega)]
    exact top_j1 hg B S N (by omega) (by omega) (by omega) (by omega) (by omega) (by omega) 5999 (by omega)
  · rw [if_neg hg, if_neg (by omega)]
    exact sk
end Go.Proofs.YtldpacphackdjaaDoor.Print
