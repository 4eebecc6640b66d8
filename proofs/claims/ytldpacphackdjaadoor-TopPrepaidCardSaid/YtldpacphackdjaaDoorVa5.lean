/- Parts of the proofs of layer 28's laws, joined in one file by a program of the session; each part begins with its own sentence. -/
import Derived.Test.YtldpacphackdjaaDoorVa3
import Derived.DeepKeys3
import Derived.Maps.OwnOps
import Derived.Test.YtldpacphackdjaaDoorVaHMCut
/- That meter.inTime answers true where all numbers are valid times. Condition: at most a thousand numbers. -/
namespace Go.Proofs.YtldpacphackdjaaDoor.Print
open Go.RowKit Go.Proofs.YtldpacphackdjaaDoorW.PrintWords Go.Proofs.YtldpacphackdjaaDoorW.PrintLast Go.Proofs.YtldpacphackdjaaDoorW.PrintMore
set_option linter.unusedVariables false
set_option linter.unusedSimpArgs false
theorem intime1 (n : Int) (h0 : 0 ≤ n) (h1 : n ≤ 1099511627776) (w : World) : Calls Tryd.prog 75 #[.int .i64 n] w fun e w' => e = .returned (.bool false) ∧ Below w.heap.size w w' := by
  have c0 : decide (n < 0) = false := decide_eq_false (by omega)
  have c1 : decide (1099511627776 < n) = false := decide_eq_false (by omega)
  clear h0 h1
  go_enter Tryd.func75, Tryd.ntmps75
  go_wp2
  go_ret
  exact ⟨rfl, by repeat (first | exact Below.refl _ _ | apply below_alloc | apply below_drew | apply pw_below_drewN)⟩
set_option maxHeartbeats 4000000 in
set_option maxRecDepth 100000 in
theorem index_time (g : Nat) (xs : List Int) (w : World) (hl : xs.length ≤ 1000) (hx : ∀ i : Nat, i < xs.length → w.cell? ⟨g, i, none⟩ = some (.int .i64 (xs.getD i 0)) ∧ 0 ≤ xs.getD i 0 ∧ xs.getD i 0 ≤ 1099511627776) :
    Calls Tryd.prog 94 #[.slice (some ⟨g, 0, none⟩) xs.length xs.length, .func (.func 75) #[] #[]] w fun e w' => e = .returned (.int .i64 (-1)) ∧ Below w.heap.size w w' := by
  have HX := Aside0.mk hx
  have B0 := Aside0.mk (Below.refl w.heap.size w)
  clear hx
  go_enter Tryd.func94, Tryd.ntmps94
  go_wp2
  go_loopg [8] xs.length (fun kx s8 wr => ∃ i : Nat, s8 = .int .i64 i ∧ i ≤ xs.length ∧ xs.length - i ≤ kx ∧ Aside0 (Below w.heap.size w wr))
  case atStart => exact ⟨0, rfl, Nat.zero_le _, by omega, B0⟩
  case round =>
    clear B0
    obtain ⟨i, rfl, hi, hk, HB⟩ := hrel
    by_cases hlt : i < xs.length
    · obtain ⟨c1, h0, h1⟩ := HX.out i hlt
      replace c1 := (HB.out.cell (World.block_lt_of_cell? w _ c1)).trans c1
      generalize xs.getD i 0 = n at c1 h0 h1
      have HC := Aside0.mk (fun W => intime1 n h0 h1 W)
      have HL := Aside0.mk hlt
      have HK := Aside0.mk hk
      clear h0 h1
      go_wp2_with (go_at_call 75; refine (HC.out _).mono ?_; rintro e w' ⟨rfl, hb⟩)
      have B2 := Aside0.mk (below_step HB.out hb)
      clear hb
      go_roundg (xs.length - (i + 1))
      case measure => have := HL.out; have := HK.out; omega
      case rel => exact ⟨i + 1, by go_num, by have := HL.out; omega, Nat.le_refl _, B2⟩
    · obtain rfl : i = xs.length := by omega
      go_wp2
      go_ret
      exact ⟨rfl, HB.out⟩
theorem contains_time (g : Nat) (xs : List Int) (w : World) (hl : xs.length ≤ 1000) (hx : ∀ i : Nat, i < xs.length → w.cell? ⟨g, i, none⟩ = some (.int .i64 (xs.getD i 0)) ∧ 0 ≤ xs.getD i 0 ∧ xs.getD i 0 ≤ 1099511627776) :
    Calls Tryd.prog 74 #[.slice (some ⟨g, 0, none⟩) xs.length xs.length, .func (.func 75) #[] #[]] w fun e w' => e = .returned (.bool false) ∧ Below w.heap.size w w' := by
  have HC := Aside0.mk (index_time g xs w hl hx)
  clear hx hl
  go_enter Tryd.func74, Tryd.ntmps74
  go_wp2_with (go_at_call 94; refine HC.out.mono ?_; rintro e w' ⟨rfl, hb⟩)
  go_ret
  exact ⟨rfl, hb⟩
/-- meter.inTime at valid times. -/
theorem inTime_calls (g : Nat) (xs : List Int) (w : World) (hl : xs.length ≤ 1000) (hx : ∀ i : Nat, i < xs.length → w.cell? ⟨g, i, none⟩ = some (.int .i64 (xs.getD i 0)) ∧ 0 ≤ xs.getD i 0 ∧ xs.getD i 0 ≤ 1099511627776) :
    Calls Tryd.prog 50 #[.slice (some ⟨g, 0, none⟩) xs.length xs.length] w fun e w' => e = .returned (.bool true) ∧ Below w.heap.size w w' := by
  have HC := Aside0.mk (contains_time g xs w hl hx)
  clear hx hl
  go_enter Tryd.func50, Tryd.ntmps50
  go_wp2_with (go_at_call 74; refine HC.out.mono ?_; rintro e w' ⟨rfl, hb⟩)
  go_ret
  exact ⟨rfl, hb⟩
end Go.Proofs.YtldpacphackdjaaDoor.Print
/- The map of meters at its first key: a look-up finds nothing. No conditions. -/
namespace Go.Proofs.YtldpacphackdjaaDoor.Print
open Go.RowKit Go.Proofs.YtldpacphackdjaaDoorW.PrintWords Go.Proofs.YtldpacphackdjaaDoorW.PrintLast Go.Proofs.YtldpacphackdjaaDoorW.PrintMore
set_option linter.unusedVariables false
set_option linter.unusedSimpArgs false
def key1 : Value := .agg #[.int .i64 1, .int .i64 1]
theorem key_check (W : World) : (Instr.checkKey true 10000 115 key1).run Tryd.prog W = .ok () W :=
  run_checkKey_deep (P := Tryd.prog) true 9990 10 115 (by kernel_rfl) W 10 key1 [.int .i64 1, .int .i64 1] (by kernel_rfl) (by kernel_rfl)
theorem lookup_first (W : World) (g : Nat) (hb : W.heap[g]? = some (.map #[] 0)) : (Instr.lookup 113 (.map (some g)) key1 false).run Tryd.prog W = .ok (.bool false) W := by
  have hc := key_check W
  have hu := Tryd.underlying113
  have hk := Tryd.underlying115
  have hf : Instr.findNow (.struct (#[] : Array Field)) key1 ([] : List MapEntry) 0 = some none := rfl
  simp [Instr.lookup, Instr.findKey, Instr.findNow, run_underlying hu, run_underlying hk, MapKept.run_getObj_map hb, hc, Result.andThen]
theorem key_check2 (W : World) : (Instr.checkKey false 10000 115 key1).run Tryd.prog W = .ok () W :=
  run_checkKey_deep (P := Tryd.prog) false 9990 10 115 (by kernel_rfl) W 10 key1 [.int .i64 1, .int .i64 1] (by kernel_rfl) (by kernel_rfl)
theorem update_first (W : World) (g : Nat) (hb : W.heap[g]? = some (.map #[] 0)) : (Instr.mapUpdate 113 (.map (some g)) key1 (.bool true)).run Tryd.prog W = .ok () { W with heap := W.heap.setIfInBounds g (.map #[{ key := key1, val := .bool true, born := 0 }] 1) } := by
  have hc := key_check2 W
  have hu := Tryd.underlying113
  have hk := Tryd.underlying115
  simp [Instr.mapUpdate, Instr.findKey, Instr.findNow, run_underlying hu, run_underlying hk, MapKept.run_getObj_map hb, hc, MapKept.run_setObj_map _ hb, Result.andThen]
theorem below_update {w W : World} {g : Nat} {o : Obj} (h : Below w.heap.size w W) (hg : w.heap.size ≤ g) : Below w.heap.size w { W with heap := W.heap.setIfInBounds g o } :=
  ⟨h.os, h.tape, h.output, by simpa using h.size, fun k hk => by
    have := h.block k hk
    rw [← this]
    show (W.heap.setIfInBounds g o)[k]? = W.heap[k]?
    rw [Array.getElem?_setIfInBounds_ne (by omega)]⟩
end Go.Proofs.YtldpacphackdjaaDoor.Print
/- That meter.valid answers true where there is no meter. No conditions. -/
namespace Go.Proofs.YtldpacphackdjaaDoor.Print
open Go.RowKit Go.Proofs.YtldpacphackdjaaDoorW.PrintWords Go.Proofs.YtldpacphackdjaaDoorW.PrintLast Go.Proofs.YtldpacphackdjaaDoorW.PrintMore
set_option linter.unusedVariables false
set_option linter.unusedSimpArgs false
set_option maxHeartbeats 4000000 in
set_option maxRecDepth 100000 in
theorem valid_nil (A : Option Addr) (c : Nat) (w : World) : Calls Tryd.prog 41 #[.slice A 0 c] w fun e w' => e = .returned (.bool true) ∧ Below w.heap.size w w' := by
  have hmm := @run_makeMap Tryd.prog
  go_enter Tryd.func41, Tryd.ntmps41
  go_wp2
  go_loopg [11] 0 (fun kx s11 wr => s11 = .int .i64 0 ∧ Aside0 (Below w.heap.size w wr))
  case atStart => exact ⟨rfl, ⟨below_alloc (Below.refl _ _) _⟩⟩
  case round =>
    obtain ⟨rfl, HB⟩ := hrel
    go_wp2
    go_ret
    exact ⟨rfl, HB.out⟩
/-- The one meter of the law. -/
def mtr (since : Int) : Array Value := #[.int .i64 1, .int .i64 1, .int .i64 0, .string one1, .int .i64 since]
set_option maxHeartbeats 4000000 in
set_option maxRecDepth 100000 in
theorem valid_mtr (ad : Addr) (since : Int) (h0 : 0 ≤ since) (h1 : since ≤ 1099511627776) (c : Nat) (w : World) (q0 : w.cell? ad = some (.int .i64 1)) (q1 : w.cell? ⟨ad.block, ad.off + 1, none⟩ = some (.int .i64 1)) (q2 : w.cell? ⟨ad.block, ad.off + 2, none⟩ = some (.int .i64 0)) (q3 : w.cell? ⟨ad.block, ad.off + 3, none⟩ = some (.string one1)) (q4 : w.cell? ⟨ad.block, ad.off + 4, none⟩ = some (.int .i64 since)) : Calls Tryd.prog 41 #[.slice (some ad) 1 c] w fun e w' => e = .returned (.bool true) ∧ Below w.heap.size w w' := by
  have hmm := @run_makeMap Tryd.prog
  have hu38 := Tryd.underlying38
  have hu115 := Tryd.underlying115
  have Q0 := Aside0.mk q0
  have Q1 := Aside0.mk q1
  have Q2 := Aside0.mk q2
  have Q3 := Aside0.mk q3
  have Q4 := Aside0.mk q4
  have VO := Aside0.mk valid_one
  clear q0 q1 q2 q3 q4
  go_enter Tryd.func41, Tryd.ntmps41
  go_wp2
  go_loopg [11] 1 (fun kx s11 wr => ∃ i : Nat, s11 = .int .i64 i ∧ i ≤ 1 ∧ 1 - i ≤ kx ∧ Aside0 (i = 0 → wr.heap[w.heap.size]? = some (.map #[] 0)) ∧ Aside0 (Below w.heap.size w wr))
  case atStart => exact ⟨0, rfl, by omega, by omega, ⟨fun _ => blk_new w _⟩, ⟨below_alloc (Below.refl _ _) _⟩⟩
  case round =>
    obtain ⟨i, rfl, hi, hk, HM, HB⟩ := hrel
    by_cases hlt : i < 1
    · obtain rfl : i = 0 := by omega
      have HM0 := Aside0.mk (HM.out rfl)
      have b0 : Below w.heap.size w wr := HB.out
      have k0 := (b0.cell (World.block_lt_of_cell? w _ Q0.out)).trans Q0.out
      have k1 := (b0.cell (World.block_lt_of_cell? w _ Q1.out)).trans Q1.out
      have k2 := (b0.cell (World.block_lt_of_cell? w _ Q2.out)).trans Q2.out
      have k3 := (b0.cell (World.block_lt_of_cell? w _ Q3.out)).trans Q3.out
      have k4 := (b0.cell (World.block_lt_of_cell? w _ Q4.out)).trans Q4.out
      clear b0 HM
      have hne : one1.toList.isEmpty = false := by kernel_rfl
      go_upto_region 6 with fail
      have bm := (blk_new wr (.cells #[.int .i64 1, .int .i64 1, .int .i64 0, .string one1, .int .i64 since] 38))
      have HB1 := Aside0.mk (below_alloc (below_alloc HB.out (.cells #[.int .i64 1, .int .i64 1, .int .i64 0, .string one1, .int .i64 since] 38)) (.cells #[.int .i64 1, .int .i64 1] 115))
      have BM := Aside0.mk (blk_alloc bm (.cells #[.int .i64 1, .int .i64 1] 115))
      have BK := Aside0.mk (blk_new (wr.alloc (.cells #[.int .i64 1, .int .i64 1, .int .i64 0, .string one1, .int .i64 since] 38)) (.cells #[.int .i64 1, .int .i64 1] 115))
      have MP := Aside0.mk (blk_alloc (blk_alloc HM0.out (.cells #[.int .i64 1, .int .i64 1, .int .i64 0, .string one1, .int .i64 since] 38)) (.cells #[.int .i64 1, .int .i64 1] 115))
      rw [World.size_alloc] at BK
      clear bm k0 k1 k2 k3 k4
      generalize (wr.alloc (.cells #[.int .i64 1, .int .i64 1, .int .i64 0, .string one1, .int .i64 since] 38)).alloc (.cells #[.int .i64 1, .int .i64 1] 115) = W1 at HB1 BM BK MP ⊢
      generalize wr.heap.size = gm at BM BK ⊢
      have z0 := blk_cell BM.out 0; have z1 := blk_cell BM.out 1; have z2 := blk_cell BM.out 2; have z3 := blk_cell BM.out 3; have z4 := blk_cell BM.out 4
      go_upto_region 7 with (go_at_call 70; refine (VO.out _).mono ?_; rintro e W2 ⟨rfl, hb⟩)
      clear z0 z1 z2 z3 z4
      have y0 := (blk_cell ((hb.block _ (blk_lt BM.out)).trans BM.out) 0); have y1 := (blk_cell ((hb.block _ (blk_lt BM.out)).trans BM.out) 1); have y2 := (blk_cell ((hb.block _ (blk_lt BM.out)).trans BM.out) 2); have y4 := (blk_cell ((hb.block _ (blk_lt BM.out)).trans BM.out) 4)
      have BM2 := Aside0.mk ((hb.block _ (blk_lt BM.out)).trans BM.out)
      have MP2 := Aside0.mk ((hb.block _ (blk_lt MP.out)).trans MP.out)
      have BK2 := Aside0.mk ((hb.block _ (blk_lt BK.out)).trans BK.out)
      have HB2 := Aside0.mk (below_step HB1.out hb)
      have c1 : decide (since < 0) = false := decide_eq_false (by omega)
      have TI := Aside0.mk (inTime_calls W2.heap.size [1, since] (W2.alloc (.cells #[.int .i64 1, .int .i64 since] 3)) (by simp) (by
        intro i hi
        have hn := blk_new W2 (.cells #[.int .i64 1, .int .i64 since] 3)
        match i, hi with
        | 0, _ => exact ⟨(blk_cell hn 0).trans rfl, by show (0 : Int) ≤ 1; omega, by show (1 : Int) ≤ _; omega⟩
        | 1, _ => exact ⟨(blk_cell hn 1).trans rfl, h0, h1⟩
        | i + 2, hi => simp at hi; omega))
      clear hb
      go_upto_if 63 with (go_at_call 50; refine TI.out.mono ?_; rintro e W3 ⟨rfl, hb⟩; have u1_ := (hb.block _ (blk_lt (blk_alloc BM2.out (.cells #[.int .i64 1, .int .i64 since] 3)))).trans (blk_alloc BM2.out (.cells #[.int .i64 1, .int .i64 since] 3)); have x0_ := blk_cell u1_ 0; have x1_ := blk_cell u1_ 1; have x2_ := blk_cell u1_ 2; have u2_ := (hb.block _ (blk_lt (blk_alloc BK2.out (.cells #[.int .i64 1, .int .i64 since] 3)))).trans (blk_alloc BK2.out (.cells #[.int .i64 1, .int .i64 since] 3)); have x5_ := blk_cell u2_ 0; have x6_ := blk_cell u2_ 1; have MP3 := Aside0.mk ((hb.block _ (blk_lt (blk_alloc MP2.out (.cells #[.int .i64 1, .int .i64 since] 3)))).trans (blk_alloc MP2.out (.cells #[.int .i64 1, .int .i64 since] 3))); have HB3 := Aside0.mk (below_step (below_alloc HB2.out (.cells #[.int .i64 1, .int .i64 since] 3)) hb); have BM3 := Aside0.mk u1_; have BK3 := Aside0.mk u2_; have hlk_ := lookup_first W3 w.heap.size MP3.out; have hup_ := update_first W3 w.heap.size MP3.out; unfold key1 at hlk_ hup_; clear hb u1_ u2_)
      go_wp2
      go_roundg 0
      case measure => omega
      case rel => exact ⟨1, by first | rfl | (simp; done), by omega, by omega, ⟨fun h => by omega⟩, ⟨below_update HB3.out (Nat.le_refl _)⟩⟩
    · obtain rfl : i = 1 := by omega
      go_wp2
      go_ret
      exact ⟨rfl, HB.out⟩
end Go.Proofs.YtldpacphackdjaaDoor.Print
/- That slices.ContainsFunc finds nothing where there is no meter. No conditions. -/
namespace Go.Proofs.YtldpacphackdjaaDoor.Print
open Go.RowKit Go.Proofs.YtldpacphackdjaaDoorW.PrintWords Go.Proofs.YtldpacphackdjaaDoorW.PrintLast Go.Proofs.YtldpacphackdjaaDoorW.PrintMore
set_option linter.unusedVariables false
set_option linter.unusedSimpArgs false
set_option maxRecDepth 100000 in
theorem index_nilm (A : Option Addr) (c : Nat) (f : Value) (w : World) : Calls Tryd.prog 71 #[.slice A 0 c, f] w fun e w' => e = .returned (.int .i64 (-1)) ∧ Below w.heap.size w w' := by
  have B0 := Aside0.mk (Below.refl w.heap.size w)
  go_enter Tryd.func71, Tryd.ntmps71
  go_wp2
  go_loopg [8] 0 (fun kx s8 wr => s8 = .int .i64 0 ∧ Aside0 (Below w.heap.size w wr))
  case atStart => exact ⟨rfl, B0⟩
  case round =>
    obtain ⟨rfl, HB⟩ := hrel
    go_wp2
    go_ret
    exact ⟨rfl, HB.out⟩
set_option maxRecDepth 100000 in
theorem contains_nilm (A : Option Addr) (c : Nat) (f : Value) (w : World) : Calls Tryd.prog 42 #[.slice A 0 c, f] w fun e w' => e = .returned (.bool false) ∧ Below w.heap.size w w' := by
  have HC := Aside0.mk (index_nilm A c f w)
  go_enter Tryd.func42, Tryd.ntmps42
  go_wp2_with (go_at_call 71; refine HC.out.mono ?_; rintro e w' ⟨rfl, hb⟩)
  go_ret
  exact ⟨rfl, hb⟩
end Go.Proofs.YtldpacphackdjaaDoor.Print
/- What the closures of meter's Advance, Stop and begin answer at the one meter. Conditions: the captured cells hold the call's number, the time, the other closure. -/
namespace Go.Proofs.YtldpacphackdjaaDoor.Print
open Go.RowKit Go.Proofs.YtldpacphackdjaaDoorW.PrintWords Go.Proofs.YtldpacphackdjaaDoorW.PrintLast Go.Proofs.YtldpacphackdjaaDoorW.PrintMore
set_option linter.unusedVariables false
set_option linter.unusedSimpArgs false
set_option maxRecDepth 100000 in
theorem all_mtr (since : Int) (w : World) : Calls Tryd.prog 46 #[.agg (mtr since)] w fun e w' => e = .returned (.bool true) ∧ Below w.heap.size w w' := by
  have hu38 := Tryd.underlying38
  unfold mtr
  have B0 := Aside0.mk (below_alloc (Below.refl w.heap.size w) (.cells #[.int .i64 1, .int .i64 1, .int .i64 0, .string one1, .int .i64 since] 38))
  go_enter Tryd.func46, Tryd.ntmps46
  go_wp2
  go_ret
  exact ⟨rfl, B0.out⟩
set_option maxRecDepth 100000 in
theorem ref_mtr (gr : Nat) (since : Int) (w : World) (hg : w.cell? ⟨gr, 0, none⟩ = some (.int .i64 1)) : Calls Tryd.prog 49 #[.agg (mtr since), .pointer (some ⟨gr, 0, none⟩)] w fun e w' => e = .returned (.bool true) ∧ Below w.heap.size w w' := by
  have hu38 := Tryd.underlying38
  unfold mtr
  have B0 := Aside0.mk (below_alloc (Below.refl w.heap.size w) (.cells #[.int .i64 1, .int .i64 1, .int .i64 0, .string one1, .int .i64 since] 38))
  have hlt := World.block_lt_of_cell? w _ hg
  have h' : (w.alloc (.cells #[.int .i64 1, .int .i64 1, .int .i64 0, .string one1, .int .i64 since] 38)).cell? ⟨gr, 0, none⟩ = some (.int .i64 1) := ((Below.alloc (Below.refl w.heap.size w) (Nat.le_refl _) _).cell hlt).trans hg
  clear hlt hg
  go_enter Tryd.func49, Tryd.ntmps49
  go_wp2
  go_ret
  exact ⟨rfl, B0.out⟩
set_option maxRecDepth 100000 in
theorem late_all (gc gn : Nat) (since now : Int) (hle : since ≤ now) (w : World) (hc : w.cell? ⟨gc, 0, none⟩ = some (.func (.func 46) #[] #[])) (hn : w.cell? ⟨gn, 0, none⟩ = some (.int .i64 now)) : Calls Tryd.prog 72 #[.agg (mtr since), .pointer (some ⟨gc, 0, none⟩), .pointer (some ⟨gn, 0, none⟩)] w fun e w' => e = .returned (.bool false) ∧ Below w.heap.size w w' := by
  have hu38 := Tryd.underlying38
  have hd0 : decide (now < since) = false := decide_eq_false (by omega)
  have HM := Aside0.mk (show (.agg (mtr since) : Value) = .agg #[.int .i64 1, .int .i64 1, .int .i64 0, .string one1, .int .i64 since] from rfl)
  have B0 := below_alloc (Below.refl w.heap.size w) (.cells #[.int .i64 1, .int .i64 1, .int .i64 0, .string one1, .int .i64 since] 38)
  have BX := Aside0.mk (blk_new w (.cells #[.int .i64 1, .int .i64 1, .int .i64 0, .string one1, .int .i64 since] 38))
  have c0 := (B0.cell (World.block_lt_of_cell? w _ hc)).trans hc
  have n0 := (B0.cell (World.block_lt_of_cell? w _ hn)).trans hn
  have LT := Aside0.mk (World.block_lt_of_cell? _ _ n0)
  have N0 := Aside0.mk n0
  have BB := Aside0.mk B0
  unfold mtr
  clear hn hc B0 hle
  go_enter Tryd.func72, Tryd.ntmps72
  go_upto_if 99 with (go_at_call 46; refine (all_mtr since _).mono ?_; rintro e W2 ⟨rfl, hb⟩; have n1_ := (hb.cell LT.out).trans N0.out; have x_ := blk_cell ((hb.block _ (blk_lt BX.out)).trans BX.out) 4; have BB2 := Aside0.mk (below_step BB.out hb); clear hb)
  go_ret
  exact ⟨rfl, BB2.out⟩
set_option maxRecDepth 100000 in
theorem late_ref (gc gn : Nat) (gr : Nat) (since now : Int) (hle : since ≤ now) (w : World) (hc : w.cell? ⟨gc, 0, none⟩ = some (.func (.func 49) #[] #[.pointer (some ⟨gr, 0, none⟩)])) (hn : w.cell? ⟨gn, 0, none⟩ = some (.int .i64 now)) (hr : w.cell? ⟨gr, 0, none⟩ = some (.int .i64 1)) : Calls Tryd.prog 72 #[.agg (mtr since), .pointer (some ⟨gc, 0, none⟩), .pointer (some ⟨gn, 0, none⟩)] w fun e w' => e = .returned (.bool false) ∧ Below w.heap.size w w' := by
  have hu38 := Tryd.underlying38
  have hd0 : decide (now < since) = false := decide_eq_false (by omega)
  have HM := Aside0.mk (show (.agg (mtr since) : Value) = .agg #[.int .i64 1, .int .i64 1, .int .i64 0, .string one1, .int .i64 since] from rfl)
  have B0 := below_alloc (Below.refl w.heap.size w) (.cells #[.int .i64 1, .int .i64 1, .int .i64 0, .string one1, .int .i64 since] 38)
  have BX := Aside0.mk (blk_new w (.cells #[.int .i64 1, .int .i64 1, .int .i64 0, .string one1, .int .i64 since] 38))
  have c0 := (B0.cell (World.block_lt_of_cell? w _ hc)).trans hc
  have n0 := (B0.cell (World.block_lt_of_cell? w _ hn)).trans hn
  have r0 := Aside0.mk ((B0.cell (World.block_lt_of_cell? w _ hr)).trans hr)
  clear hr
  have LT := Aside0.mk (World.block_lt_of_cell? _ _ n0)
  have N0 := Aside0.mk n0
  have BB := Aside0.mk B0
  unfold mtr
  clear hn hc B0 hle
  go_enter Tryd.func72, Tryd.ntmps72
  go_upto_if 99 with (go_at_call 49; refine (ref_mtr gr since _ r0.out).mono ?_; rintro e W2 ⟨rfl, hb⟩; have n1_ := (hb.cell LT.out).trans N0.out; have x_ := blk_cell ((hb.block _ (blk_lt BX.out)).trans BX.out) 4; have BB2 := Aside0.mk (below_step BB.out hb); clear hb)
  go_ret
  exact ⟨rfl, BB2.out⟩
end Go.Proofs.YtldpacphackdjaaDoor.Print
/- What slices.IndexFunc answers at the one meter: nothing found by begin's closure, the first found by Stop's. Condition: the closure answers so behind whatever was laid since. -/
namespace Go.Proofs.YtldpacphackdjaaDoor.Print
open Go.RowKit Go.Proofs.YtldpacphackdjaaDoorW.PrintWords Go.Proofs.YtldpacphackdjaaDoorW.PrintLast Go.Proofs.YtldpacphackdjaaDoorW.PrintMore
set_option linter.unusedVariables false
set_option linter.unusedSimpArgs false
set_option maxHeartbeats 4000000 in
set_option maxRecDepth 100000 in
theorem index_late (ad : Addr) (gc gn : Nat) (since : Int) (c : Nat) (w : World) (q0 : w.cell? ad = some (.int .i64 1)) (q1 : w.cell? ⟨ad.block, ad.off + 1, none⟩ = some (.int .i64 1)) (q2 : w.cell? ⟨ad.block, ad.off + 2, none⟩ = some (.int .i64 0)) (q3 : w.cell? ⟨ad.block, ad.off + 3, none⟩ = some (.string one1)) (q4 : w.cell? ⟨ad.block, ad.off + 4, none⟩ = some (.int .i64 since)) (hf : ∀ W, Below w.heap.size w W → Calls Tryd.prog 72 (#[.agg (mtr since)] ++ #[.pointer (some ⟨gc, 0, none⟩), .pointer (some ⟨gn, 0, none⟩)]) W fun e w' => e = .returned (.bool false) ∧ Below W.heap.size W w') :
    Calls Tryd.prog 71 #[.slice (some ad) 1 c, .func (.func 72) #[] #[.pointer (some ⟨gc, 0, none⟩), .pointer (some ⟨gn, 0, none⟩)]] w fun e w' => e = .returned (.int .i64 (-1)) ∧ Below w.heap.size w w' := by
  have hu38 := Tryd.underlying38
  have HF := Aside0.mk hf
  have Q0 := Aside0.mk q0
  have Q1 := Aside0.mk q1
  have Q2 := Aside0.mk q2
  have Q3 := Aside0.mk q3
  have Q4 := Aside0.mk q4
  have B0 := Aside0.mk (Below.refl w.heap.size w)
  clear hf q0 q1 q2 q3 q4
  go_enter Tryd.func71, Tryd.ntmps71
  go_wp2
  go_loopg [8] 1 (fun kx s8 wr => ∃ i : Nat, s8 = .int .i64 i ∧ i ≤ 1 ∧ 1 - i ≤ kx ∧ Aside0 (Below w.heap.size w wr))
  case atStart => exact ⟨0, rfl, by omega, by omega, B0⟩
  case round =>
    obtain ⟨i, rfl, hi, hk, HB⟩ := hrel
    clear B0
    by_cases hlt : i < 1
    · obtain rfl : i = 0 := by omega
      have k0 := (HB.out.cell (World.block_lt_of_cell? w _ Q0.out)).trans Q0.out
      have k1 := (HB.out.cell (World.block_lt_of_cell? w _ Q1.out)).trans Q1.out
      have k2 := (HB.out.cell (World.block_lt_of_cell? w _ Q2.out)).trans Q2.out
      have k3 := (HB.out.cell (World.block_lt_of_cell? w _ Q3.out)).trans Q3.out
      have k4 := (HB.out.cell (World.block_lt_of_cell? w _ Q4.out)).trans Q4.out
      have FC := Aside0.mk (HF.out wr HB.out)
      unfold mtr at FC
      go_wp2_with (go_at_call 72; refine FC.out.mono ?_; rintro e w' ⟨rfl, hb⟩)
      have B2 := Aside0.mk (below_step HB.out hb)
      clear hb
      go_roundg 0
      case measure => omega
      case rel => exact ⟨1, by first | rfl | (simp; done), by omega, by omega, B2⟩
    · obtain rfl : i = 1 := by omega
      go_wp2
      go_ret
      exact ⟨rfl, HB.out⟩
set_option maxHeartbeats 4000000 in
set_option maxRecDepth 100000 in
theorem index_ref (ad : Addr) (gr : Nat) (since : Int) (c : Nat) (w : World) (q0 : w.cell? ad = some (.int .i64 1)) (q1 : w.cell? ⟨ad.block, ad.off + 1, none⟩ = some (.int .i64 1)) (q2 : w.cell? ⟨ad.block, ad.off + 2, none⟩ = some (.int .i64 0)) (q3 : w.cell? ⟨ad.block, ad.off + 3, none⟩ = some (.string one1)) (q4 : w.cell? ⟨ad.block, ad.off + 4, none⟩ = some (.int .i64 since)) (hf : ∀ W, Below w.heap.size w W → Calls Tryd.prog 49 (#[.agg (mtr since)] ++ #[.pointer (some ⟨gr, 0, none⟩)]) W fun e w' => e = .returned (.bool true) ∧ Below W.heap.size W w') :
    Calls Tryd.prog 71 #[.slice (some ad) 1 c, .func (.func 49) #[] #[.pointer (some ⟨gr, 0, none⟩)]] w fun e w' => e = .returned (.int .i64 (0)) ∧ Below w.heap.size w w' := by
  have hu38 := Tryd.underlying38
  have HF := Aside0.mk hf
  have Q0 := Aside0.mk q0
  have Q1 := Aside0.mk q1
  have Q2 := Aside0.mk q2
  have Q3 := Aside0.mk q3
  have Q4 := Aside0.mk q4
  have B0 := Aside0.mk (Below.refl w.heap.size w)
  clear hf q0 q1 q2 q3 q4
  go_enter Tryd.func71, Tryd.ntmps71
  go_wp2
  go_loopg [8] 1 (fun kx s8 wr => ∃ i : Nat, s8 = .int .i64 i ∧ i ≤ 1 ∧ 1 - i ≤ kx ∧ Aside0 (i = 0) ∧ Aside0 (Below w.heap.size w wr))
  case atStart => exact ⟨0, rfl, by omega, by omega, ⟨rfl⟩, B0⟩
  case round =>
    obtain ⟨i, rfl, hi, hk, HI, HB⟩ := hrel
    clear B0
    by_cases hlt : i < 1
    · obtain rfl : i = 0 := by omega
      have k0 := (HB.out.cell (World.block_lt_of_cell? w _ Q0.out)).trans Q0.out
      have k1 := (HB.out.cell (World.block_lt_of_cell? w _ Q1.out)).trans Q1.out
      have k2 := (HB.out.cell (World.block_lt_of_cell? w _ Q2.out)).trans Q2.out
      have k3 := (HB.out.cell (World.block_lt_of_cell? w _ Q3.out)).trans Q3.out
      have k4 := (HB.out.cell (World.block_lt_of_cell? w _ Q4.out)).trans Q4.out
      have FC := Aside0.mk (HF.out wr HB.out)
      unfold mtr at FC
      go_wp2_with (go_at_call 49; refine FC.out.mono ?_; rintro e w' ⟨rfl, hb⟩)
      go_ret
      exact ⟨rfl, below_step HB.out hb⟩
    · exact absurd HI.out (by omega)
set_option maxRecDepth 100000 in
theorem contains_late (ad : Addr) (gc gn : Nat) (since : Int) (c : Nat) (w : World) (q0 : w.cell? ad = some (.int .i64 1)) (q1 : w.cell? ⟨ad.block, ad.off + 1, none⟩ = some (.int .i64 1)) (q2 : w.cell? ⟨ad.block, ad.off + 2, none⟩ = some (.int .i64 0)) (q3 : w.cell? ⟨ad.block, ad.off + 3, none⟩ = some (.string one1)) (q4 : w.cell? ⟨ad.block, ad.off + 4, none⟩ = some (.int .i64 since)) (hf : ∀ W, Below w.heap.size w W → Calls Tryd.prog 72 (#[.agg (mtr since)] ++ #[.pointer (some ⟨gc, 0, none⟩), .pointer (some ⟨gn, 0, none⟩)]) W fun e w' => e = .returned (.bool false) ∧ Below W.heap.size W w') :
    Calls Tryd.prog 42 #[.slice (some ad) 1 c, .func (.func 72) #[] #[.pointer (some ⟨gc, 0, none⟩), .pointer (some ⟨gn, 0, none⟩)]] w fun e w' => e = .returned (.bool false) ∧ Below w.heap.size w w' := by
  have HC := Aside0.mk (index_late ad gc gn since c w q0 q1 q2 q3 q4 hf)
  clear hf q0 q1 q2 q3 q4
  go_enter Tryd.func42, Tryd.ntmps42
  go_wp2_with (go_at_call 71; refine HC.out.mono ?_; rintro e w' ⟨rfl, hb⟩)
  go_ret
  exact ⟨rfl, hb⟩
set_option maxRecDepth 100000 in
theorem contains_ref (ad : Addr) (gr : Nat) (since : Int) (c : Nat) (w : World) (q0 : w.cell? ad = some (.int .i64 1)) (q1 : w.cell? ⟨ad.block, ad.off + 1, none⟩ = some (.int .i64 1)) (q2 : w.cell? ⟨ad.block, ad.off + 2, none⟩ = some (.int .i64 0)) (q3 : w.cell? ⟨ad.block, ad.off + 3, none⟩ = some (.string one1)) (q4 : w.cell? ⟨ad.block, ad.off + 4, none⟩ = some (.int .i64 since)) (hf : ∀ W, Below w.heap.size w W → Calls Tryd.prog 49 (#[.agg (mtr since)] ++ #[.pointer (some ⟨gr, 0, none⟩)]) W fun e w' => e = .returned (.bool true) ∧ Below W.heap.size W w') :
    Calls Tryd.prog 42 #[.slice (some ad) 1 c, .func (.func 49) #[] #[.pointer (some ⟨gr, 0, none⟩)]] w fun e w' => e = .returned (.bool true) ∧ Below w.heap.size w w' := by
  have HC := Aside0.mk (index_ref ad gr since c w q0 q1 q2 q3 q4 hf)
  clear hf q0 q1 q2 q3 q4
  go_enter Tryd.func42, Tryd.ntmps42
  go_wp2_with (go_at_call 71; refine HC.out.mono ?_; rintro e w' ⟨rfl, hb⟩)
  go_ret
  exact ⟨rfl, hb⟩
end Go.Proofs.YtldpacphackdjaaDoor.Print
/- That slices.Clone copies a list of meters, and how the row of the one meter lies in memory. -/
namespace Go.Proofs.YtldpacphackdjaaDoor.Print
open Go.RowKit Go.Proofs.YtldpacphackdjaaDoorW.PrintWords Go.Proofs.YtldpacphackdjaaDoorW.PrintLast Go.Proofs.YtldpacphackdjaaDoorW.PrintMore
set_option linter.unusedVariables false
set_option linter.unusedSimpArgs false
theorem mrow_made {w : World} {base g : Nat} (hg : base ≤ g) (hb : w.heap[g]? = some (.cells #[] 38 (0, 0))) : Kd.R k38 38 w base (fun _ => True) (.slice (some ⟨g, 0, none⟩) 0 0) [] :=
  ⟨fun _ _ => trivial, [], ⟨by simp, .inr ⟨g, 0, #[], rfl, hg, hb, Nat.le_refl _, Nat.zero_le _, rfl, rfl⟩⟩, Reps.none _ _⟩
set_option maxHeartbeats 4000000 in
set_option maxRecDepth 100000 in
theorem clone_meter (A0 : Option Addr) (c0 : Nat) (l : List S38) (w : World) (hr : Kd.C k38 w A0 l.length l) (hc : l.length ≤ c0) (hlen : l.length ≤ 1024) :
    Calls Tryd.prog 44 #[.slice A0 l.length c0] w fun e w' => ∃ v, e = .returned v ∧ Kd.R k38 38 w' w.heap.size (fun _ => True) v l ∧ Below w.heap.size w w' := by
  have hus := Tryd.underlying34
  have hu := Tryd.underlying38
  have heq := fun (w : World) (a : Option Addr) (n c n' c' : Nat) => Lib.run_eql_slice_nil (P := Tryd.prog) w 34 38 a n c n' c' hus
  cases A0 with
  | none =>
    have hn : l = [] := by
      rcases Nat.eq_zero_or_pos l.length with h | h
      · exact List.length_eq_zero_iff.1 h
      · obtain ⟨ad, h, _⟩ := hr.2.2 h
        cases h
    subst hn
    go_enter Tryd.func44, Tryd.ntmps44
    go_wp2
    go_ret
    exact ⟨_, rfl, Kd.R_nil _ _ _ _ _, Below.refl _ _⟩
  | some ad =>
    obtain ⟨ab, ao, asp⟩ := ad
    have HR := Aside0.mk hr
    have LB := Aside0.mk (show (0 + l.length) * 48 ≤ 140737488355328 by omega)
    clear hr
    go_enter Tryd.func44, Tryd.ntmps44
    go_wp2_with (first
      | ((with_reducible refine gate_dst (N := 5) rfl ?_); refine slice_event (n := 0) (c := 0) ?hg (N := 5) ?hd (cs := #[]) (t := 38) ?hr ?_; (case hd => rfl); (case hg => rfl); (case hr => first | (go_simp; done) | (go_simp; rfl)); intro g hg w1 hbox hb; have n0_ := Aside0.mk (below_step (Below.refl w.heap.size w) hb); have GE := Aside0.mk (Nat.le_of_eq hg.symm : w.heap.size ≤ g); have n1_ := Aside0.mk (Kd.C_below HR.out hb); have n2_ := Aside0.mk (mrow_made GE.out hbox); clear hb hbox hg)
      | ((with_reducible refine gate_builtin (b := .append) (xs := #[.tmp 5, .tmp 6]) rfl ?_); at_builtin; refine Kd.R_append_rows k38 (w0 := w) w.heap.size rfl (.tmp 5) (.tmp 6) 34 38 _ 48 rfl Tryd.underlying34 info38 rfl (by decide) (by omega) (.slice (some ⟨g, 0, none⟩) 0 0) [] l (some ⟨ab, ao, asp⟩) l.length c0 (fun _ => True) (fun _ => False) (by rfl) (by rfl) n2_.out n1_.out (fun x cs h => by have e := k38_open h; subst e; exact k38_mkM _ _ _ x) (fun _ h => h.elim) (fun _ _ => trivial) n0_.out (below_size n0_.out) (by simpa using LB.out) ?_; intro v1 w2 ho hb hgr hat; have END := Aside0.mk (And.intro ho hb); clear ho hb hgr hat))
    go_ret
    exact ⟨v1, rfl, END.out.1, END.out.2⟩
theorem clone_none (A : Option Addr) (c : Nat) (w : World) (hr : Kd.C k38 w A ([] : List S38).length []) : Calls Tryd.prog 44 #[.slice A 0 c] w fun e w' => ∃ v, e = .returned v ∧ Kd.R k38 38 w' w.heap.size (fun _ => True) v [] ∧ Below w.heap.size w w' :=
  clone_meter A c [] w hr (Nat.zero_le _) (by simp)
/-- The one meter. -/
def Mt (since : Int) : S38 := ⟨1, 1, 0, one1, since⟩
theorem meter_row_open {w : World} {base : Nat} {ok : Nat → Prop} {v : Value} {since : Int} (h : Kd.R k38 38 w base ok v [Mt since]) :
    ∃ g cap rest, v = .slice (some ⟨g, 0, none⟩) 1 cap ∧ base ≤ g ∧ w.heap[g]? = some (.cells (mcells since rest) 38 (0, 0)) ∧ 1 ≤ cap ∧ cap ≤ maxLen ∧ (mcells since rest).size = cap * 5 := by
  obtain ⟨_, inner, ⟨hl, ho⟩, hrp⟩ := h
  rcases ho with ⟨_, h0⟩ | ⟨g, cap, cur, hv, hg, hb, h1, h2, hsz, htk⟩
  · simp at h0
  · have hin := k38_openM (hrp.2 0 (Mt since) rfl)
    have hsz5 : k38.sz = 5 := rfl
    rw [hsz5] at hin hsz htk
    simp only [List.length_singleton, Nat.one_mul, Nat.zero_mul, List.drop_zero] at hin htk hv h1
    have hil : inner.take 5 = inner := List.take_of_length_le (by rw [hl, hsz5]; simp)
    rw [hil] at hin
    refine ⟨g, cap, (cur.toList.drop 5).toArray, hv, hg, ?_, h1, h2, ?_⟩
    · rw [hb]
      congr 2
      apply Array.ext'
      rw [← List.take_append_drop 5 cur.toList, htk, hin]
      simp [mcells, Mt]
    · rw [← hsz]
      have hc5 : 5 ≤ cur.size := by rw [hsz]; omega
      simp [mcells]
      omega
theorem meter_row_mk {w : World} {base g cap : Nat} {rest : Array Value} {since : Int} (hg : base ≤ g) (hb : w.heap[g]? = some (.cells (mcells since rest) 38 (0, 0))) (h1 : 1 ≤ cap) (h2 : cap ≤ maxLen) (hs : (mcells since rest).size = cap * 5) : Kd.R k38 38 w base (fun _ => True) (.slice (some ⟨g, 0, none⟩) 1 cap) [Mt since] := by
  refine ⟨fun _ _ => trivial, [.int .i64 1, .int .i64 1, .int .i64 0, .string one1, .int .i64 since], ⟨rfl, .inr ⟨g, cap, mcells since rest, rfl, hg, hb, h1, h2, hs, ?_⟩⟩, rfl, fun j p hj => ?_⟩
  · simp [mcells, show k38.sz = 5 from rfl]
  · match j, hj with
    | 0, hj => simp at hj; subst hj; exact k38_mkM _ _ _ (Mt since)
theorem meter_C {w : World} {g : Nat} {rest : Array Value} {since : Int} (h : w.heap[g]? = some (.cells (mcells since rest) 38 (0, 0))) : Kd.C k38 w (some ⟨g, 0, none⟩) 1 [Mt since] := by
  refine ⟨rfl, by omega, fun _ => ⟨⟨g, 0, none⟩, rfl, fun j p hj => ?_⟩⟩
  match j, hj with
  | 0, hj =>
    simp at hj
    subst hj
    refine ⟨_, rfl, k38_mk w (Mt since), fun i u hu => ?_⟩
    match i, hu with
    | 0, hu => simp [Mt] at hu; subst hu; exact mcell0 h
    | 1, hu => simp [Mt] at hu; subst hu; exact mcell1 h
    | 2, hu => simp [Mt] at hu; subst hu; exact mcell2 h
    | 3, hu => simp [Mt] at hu; subst hu; exact mcell3 h
    | 4, hu => simp [Mt] at hu; subst hu; exact mcell4 h
    | i + 5, hu => simp at hu
theorem mcells_nil (since : Int) : mcells since #[] = #[.int .i64 1, .int .i64 1, .int .i64 0, .string one1, .int .i64 since] := rfl
end Go.Proofs.YtldpacphackdjaaDoor.Print
