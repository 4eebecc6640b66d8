/- How a tariff, a timer queue and a list of updates that came in stand in memory, told in the words of the printed contracts. No conditions beyond that they can be read as data. -/
import Derived.Test.YtldpacphackdjaaK0
import Derived.WalkKit
import Derived.ProofKit
import Derived.OpenShut
import Derived.ChangeOld
import Derived.Below
import Derived.SizedLaws
import Derived.Deep.SlicePairs
namespace Go.Proofs.Ytldpacphackdjaa.Print
open Go.ChangeShapes Go.WideShapes Go.ChangeAt Go.RowKit Go.Deep
open Go.Proofs.YtldpacphackdjaaW.PrintWords hiding add_add
set_option linter.unusedVariables false

section
variable {H : Type} {enc : TypeId × Value → H} {P : Program} {w : World} {base : Nat} {spare : Nat → Bool} {held : Bool}

/-- A slice of structs of two whole numbers, opened: its length, its capacity, its elements. -/
theorem open_pairs {t e : TypeId} {f0 f1 : Field} {fuel : Nat} {cs : List Value} {x : DataW H × List MemPlace} (ht : P.underlying t = some (.slice e)) (he : P.underlying e = some (.struct #[f0, f1]))
    (ce : P.cellsOf e = 2) (o0 : f0.offset = 0) (o1 : f1.offset = 1) (c0 : P.cellsOf f0.type = 1) (c1 : P.cellsOf f1.type = 1) (u0 : P.underlying f0.type = some (.int .i64)) (u1 : P.underlying f1.type = some (.int .i64))
    (h : DataW.trod enc P w base spare held fuel t cs = some x) :
    ∃ (A : Option Addr) (c : Nat) (l : List (Int × Int)), cs = [.slice A l.length c] ∧ l.length ≤ c ∧ c ≤ maxLen ∧ (∀ p ∈ l, (Lit.int .i64 p.1).wf = true ∧ (Lit.int .i64 p.2).wf = true) ∧
      ReadsRow (fun (p : Int × Int) cs => cs = [.int .i64 p.1, .int .i64 p.2]) 2 w A l.length l := by
  rcases open_slice_pairs ht he ce o0 o1 c0 c1 h with ⟨rfl, _⟩ | ⟨a, len, cap, m, n, V0, V1, D0, D1, P0, P1, rfl, _, hl, hm, hmm, _, hx⟩
  · exact ⟨none, 0, [], rfl, Nat.le_refl _, Nat.zero_le _, by simp, rfl, by simp, fun h => absurd h (by simp)⟩
  · have hlm : len ≤ m := by rw [hmm]; split <;> omega
    have each : ∀ i, i < len → ∃ q : Int × Int, w.cell? (a.add (i * 2)) = some (.int .i64 q.1) ∧ w.cell? (a.add (i * 2 + 1)) = some (.int .i64 q.2) ∧ (Lit.int .i64 q.1).wf = true ∧ (Lit.int .i64 q.2).wf = true := by
      intro i hi
      obtain ⟨h0, h1, h2, h3⟩ := hx i (by omega)
      obtain ⟨y0, e0, _, w0⟩ := DataW.trod_int u0 h2
      obtain ⟨y1, e1, _, w1⟩ := DataW.trod_int u1 h3
      simp only [List.cons.injEq, and_true] at e0 e1
      rw [e0] at h0
      rw [e1] at h1
      exact ⟨(y0, y1), h0, h1, w0, w1⟩
    obtain ⟨q, hq⟩ := choose_lt each
    have hlen : ((List.range len).map q).length = len := by simp
    refine ⟨some a, cap, (List.range len).map q, by rw [hlen], by rw [hlen]; exact hl, hm, ?_, ?_⟩
    · intro p hp
      obtain ⟨i, hi, rfl⟩ := List.mem_map.1 hp
      exact (hq i (List.mem_range.1 hi)).2.2
    · refine ⟨rfl, by rw [hlen]; simp only [maxLen] at hm; omega, fun _ => ⟨a, rfl, fun j p hp => ?_⟩⟩
      have hj : j < len := by
        rw [← hlen]
        exact (List.getElem?_eq_some_iff.1 hp).1
      have hp2 : p = q j := by
        rw [List.getElem?_map, List.getElem?_range hj] at hp
        simpa using hp.symm
      subst hp2
      refine ⟨_, rfl, rfl, fun i u hu => ?_⟩
      match i, hu with
      | 0, hu =>
        simp only [List.getElem?_cons_zero, Option.some.injEq] at hu
        subst hu
        exact (hq j hj).1
      | 1, hu =>
        simp only [List.getElem?_cons_succ, List.getElem?_cons_zero, Option.some.injEq] at hu
        subst hu
        exact (hq j hj).2.1
      | i + 2, hu => simp at hu

/-- A struct whose one field is a slice, by value. -/
theorem open_agg1 {r : Reach} {b0 : Nat} {t : TypeId} {f0 : Field} {v : Value} {d : DataW H} {p : List MemPlace} (hs : P.underlying t = some (.struct #[f0])) (o0 : f0.offset = 0) (k0 : P.cellsOf f0.type = 1) (hC : P.cellsOf t = 1)
    (hv : Value.okWide P w r b0 t v) (h : DataW.Trod enc P w base spare held t v d p) :
    ∃ (v0 : Value) (y0 : DataW H × List MemPlace) (n : Nat), v = .agg #[v0] ∧ DataW.trod enc P w base spare held n f0.type [v0] = some y0 := by
  obtain ⟨cs, rfl, hsz⟩ := okWide_struct hs hv
  obtain ⟨c0, rfl⟩ : ∃ c0, cs = #[c0] := by
    have h1 : cs.size = 1 := hsz.trans hC
    exact ⟨cs[0], by apply Array.ext <;> simp [h1]; intro i hi; have : i = 0 := by omega
                     subst this; rfl⟩
  obtain ⟨fuel, hf⟩ := h
  obtain ⟨y0, n, _, _, h0⟩ := trod_struct1 hs hf
  exact ⟨c0, y0, n, rfl, by simpa [Value.cells, o0, k0] using h0⟩
end

section
variable {H : Type} {enc : TypeId × Value → H} {w : World} {base : Nat} {spare : Nat → Bool} {held : Bool}
/-- The numbers of an int's range. -/
def Rng (n : Int) : Prop := -9223372036854775808 ≤ n ∧ n ≤ 9223372036854775807
theorem Rng.of_wf {n : Int} (h : (Lit.int .i64 n).wf = true) : Rng n := by
  simp [Lit.wf] at h
  exact h
def mkBand (p : Int × Int) : S42 := ⟨p.1, p.2⟩
def mkTimer (p : Int × Int) : S64 := ⟨p.1, p.2⟩
def mkUpdate (p : Int × Int) : S88 := ⟨p.1, p.2⟩

theorem reads_map {α : Type} {d : Kd α} (f : Int × Int → α) (hsz : d.sz = 2) (hK : ∀ p, d.K w (f p) [.int .i64 p.1, .int .i64 p.2]) {A : Option Addr} {l : List (Int × Int)}
    (h : ReadsRow (fun (p : Int × Int) cs => cs = [.int .i64 p.1, .int .i64 p.2]) 2 w A l.length l) : Kd.C d w A (l.map f).length (l.map f) := by
  obtain ⟨_, h2, h3⟩ := h
  refine ⟨rfl, by rw [List.length_map]; exact h2, fun hp => ?_⟩
  rw [List.length_map] at hp
  obtain ⟨ad, e, hc⟩ := h3 hp
  refine ⟨ad, e, fun j p hj => ?_⟩
  rw [List.getElem?_map] at hj
  obtain ⟨q, hq, rfl⟩ := Option.map_eq_some_iff.1 hj
  obtain ⟨c, hlen, rfl, hcell⟩ := hc j q hq
  exact ⟨_, by rw [hsz]; rfl, hK q, fun i u hu => by rw [hsz]; exact hcell i u hu⟩

theorem open_tariff {b0 : Nat} {v : Value} {d : DataW H} {p : List MemPlace} (hv : Value.okWide Try.prog w .any b0 24 v) (h : DataW.Trod enc Try.prog w base spare held 24 v d p) :
    ∃ (A : Option Addr) (c : Nat) (l : List S42), v = .agg #[.slice A l.length c] ∧ l.length ≤ c ∧ l.length ≤ 9223372036854775807 ∧ (∀ x ∈ l, Rng x.f0 ∧ Rng x.f1) ∧ Kd.C k42 w A l.length l := by
  obtain ⟨v0, y0, n, rfl, h0⟩ := open_agg1 Try.underlying24 (by kernel_rfl) (by kernel_rfl) (by kernel_rfl) hv h
  obtain ⟨A, c, l, hcs, hl, hm, hw, hr⟩ := open_pairs Try.underlying22 Try.underlying42 (by kernel_rfl) rfl rfl (by kernel_rfl) (by kernel_rfl) (by kernel_rfl) (by kernel_rfl) h0
  simp only [List.cons.injEq, and_true] at hcs
  subst hcs
  have hR := reads_map (d := k42) mkBand rfl (fun p => k42_mk w (mkBand p)) hr
  have hlen : (l.map mkBand).length = l.length := List.length_map ..
  refine ⟨A, c, l.map mkBand, by rw [hlen], by rw [hlen]; exact hl, by rw [hlen]; simp only [maxLen] at hm; omega, ?_, hR⟩
  intro x hx
  obtain ⟨q, hq, rfl⟩ := List.mem_map.1 hx
  exact ⟨Rng.of_wf (hw q hq).1, Rng.of_wf (hw q hq).2⟩

theorem open_queue {b0 : Nat} {v : Value} {d : DataW H} {p : List MemPlace} (hv : Value.okWide Try.prog w .any b0 45 v) (h : DataW.Trod enc Try.prog w base spare held 45 v d p) :
    ∃ (A : Option Addr) (c : Nat) (l : List S64), v = .agg #[.slice A l.length c] ∧ l.length ≤ c ∧ l.length ≤ 9223372036854775807 ∧ (∀ x ∈ l, Rng x.f0 ∧ Rng x.f1) ∧ Kd.C k64 w A l.length l := by
  obtain ⟨v0, y0, n, rfl, h0⟩ := open_agg1 Try.underlying45 (by kernel_rfl) (by kernel_rfl) (by kernel_rfl) hv h
  obtain ⟨A, c, l, hcs, hl, hm, hw, hr⟩ := open_pairs Try.underlying43 Try.underlying64 (by kernel_rfl) rfl rfl (by kernel_rfl) (by kernel_rfl) (by kernel_rfl) (by kernel_rfl) h0
  simp only [List.cons.injEq, and_true] at hcs
  subst hcs
  have hR := reads_map (d := k64) mkTimer rfl (fun p => k64_mk w (mkTimer p)) hr
  have hlen : (l.map mkTimer).length = l.length := List.length_map ..
  refine ⟨A, c, l.map mkTimer, by rw [hlen], by rw [hlen]; exact hl, by rw [hlen]; simp only [maxLen] at hm; omega, ?_, hR⟩
  intro x hx
  obtain ⟨q, hq, rfl⟩ := List.mem_map.1 hx
  exact ⟨Rng.of_wf (hw q hq).1, Rng.of_wf (hw q hq).2⟩

theorem open_updates {b0 : Nat} {v : Value} {d : DataW H} {p : List MemPlace} (hv : Value.okWide Try.prog w .any b0 60 v) (h : DataW.Trod enc Try.prog w base spare held 60 v d p) :
    ∃ (A : Option Addr) (c : Nat) (l : List S88), v = .slice A l.length c ∧ l.length ≤ c ∧ l.length ≤ 9223372036854775807 ∧ (∀ x ∈ l, Rng x.f0 ∧ Rng x.f1) ∧ Kd.C k88 w A l.length l := by
  obtain ⟨a, len, cap, rfl⟩ := okWide_slice Try.underlying60 hv
  obtain ⟨fuel, hf⟩ := h
  obtain ⟨A, c, l, hcs, hl, hm, hw, hr⟩ := open_pairs Try.underlying60 Try.underlying88 (by kernel_rfl) rfl rfl (by kernel_rfl) (by kernel_rfl) (by kernel_rfl) (by kernel_rfl) hf
  simp only [Value.cells, List.cons.injEq, and_true, Value.slice.injEq] at hcs
  obtain ⟨rfl, rfl, rfl⟩ := hcs
  have hR := reads_map (d := k88) mkUpdate rfl (fun p => k88_mk w (mkUpdate p)) hr
  have hlen : (l.map mkUpdate).length = l.length := List.length_map ..
  refine ⟨a, cap, l.map mkUpdate, by rw [hlen], by rw [hlen]; exact hl, by rw [hlen]; simp only [maxLen] at hm; omega, ?_, hR⟩
  intro x hx
  obtain ⟨q, hq, rfl⟩ := List.mem_map.1 hx
  exact ⟨Rng.of_wf (hw q hq).1, Rng.of_wf (hw q hq).2⟩
end
end Go.Proofs.Ytldpacphackdjaa.Print
