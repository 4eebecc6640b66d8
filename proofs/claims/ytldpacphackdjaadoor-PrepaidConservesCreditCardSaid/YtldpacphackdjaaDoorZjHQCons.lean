/- That the law PrepaidConservesCredit answers true at every account, tariff and script of operations. -/
import Derived.Test.YtldpacphackdjaaDoorZj1
import Derived.Test.YtldpacphackdjaaDoorZa6
import Derived.Test.YtldpacphackdjaaDoorZa5
import Derived.Test.YtldpacphackdjaaDoorZaF29
import Derived.Test.YtldpacphackdjaaDoorZaSq
import Derived.BigRegion
namespace Go.Proofs.YtldpacphackdjaaDoor.Print
open Go.RowKit Go.Proofs.YtldpacphackdjaaDoorW.PrintWords Go.Proofs.YtldpacphackdjaaDoorW.PrintLast Go.Proofs.YtldpacphackdjaaDoorW.PrintMore
attribute [local go_sem] max2_int min2_int max_two min_two max_three min_three max_four min_four
set_option linter.unusedVariables false
set_option linter.unusedSimpArgs false
/-- Every amount of the script is in an int's range. -/
def opsOk (l : List S54) : Bool := l.all fun x => decide (-9223372036854775808 ≤ x.f2) && decide (x.f2 ≤ 9223372036854775807)
theorem opsOk_at {l : List S54} (h : opsOk l = true) (i : Int) (h0 : 0 ≤ i) (h1 : i < (l.length : Int)) : -9223372036854775808 ≤ (rd_T54 l i).f2 ∧ (rd_T54 l i).f2 ≤ 9223372036854775807 := by
  have hi : i.toNat < l.length := by omega
  have e : rd_T54 l i = l[i.toNat] := by
    have := rdH_is l i.toNat hi
    rwa [show ((i.toNat : Nat) : Int) = i by omega] at this
  rw [e]
  have := List.all_eq_true.1 h l[i.toNat] (List.getElem_mem _)
  simpa using this
def crossbarlaw28_PrepaidConservesCredit.T10 : Bool × List (List Nat × List Nat) := (true, [([], []), ([], []), ([], []), ([1, 2], [1, 2]), ([3], [3]), ([4], [4]), ([0, 5], [0, 5]), ([6, 6, 0, 1, 2, 3, 4, 5, 6], [6])])
def crossbarlaw28_PrepaidConservesCredit.B10 : List Nat := [0, 0, 0, 6, 14, 30, 63, 127]
theorem crossbarlaw28_PrepaidConservesCredit.tab10 : rtab .any (opsOf Tryd.f9 10) = crossbarlaw28_PrepaidConservesCredit.T10 := by kernel_rfl
theorem crossbarlaw28_PrepaidConservesCredit.bits10 : waitsOk crossbarlaw28_PrepaidConservesCredit.T10.2 crossbarlaw28_PrepaidConservesCredit.B10 = true := by kernel_rfl
def crossbarlaw28_PrepaidConservesCredit.T17 : Bool × List (List Nat × List Nat) := (true, [([], []), ([], []), ([], []), ([1, 2], [1, 2]), ([3], [3]), ([4], [4]), ([0, 5], [0, 5]), ([6], [6]), ([7], [7]), ([7], [7]), ([8, 6, 0, 1, 2, 3, 4, 5, 6, 7, 8], [8]), ([9, 10, 0, 1, 2, 3, 4, 5, 6, 7, 8, 9, 10], [9])])
def crossbarlaw28_PrepaidConservesCredit.B17 : List Nat := [0, 0, 0, 6, 14, 30, 63, 127, 255, 255, 511, 2047]
theorem crossbarlaw28_PrepaidConservesCredit.tab17 : rtab .any (opsOf Tryd.f9 17) = crossbarlaw28_PrepaidConservesCredit.T17 := by kernel_rfl
theorem crossbarlaw28_PrepaidConservesCredit.bits17 : waitsOk crossbarlaw28_PrepaidConservesCredit.T17.2 crossbarlaw28_PrepaidConservesCredit.B17 = true := by kernel_rfl
def crossbarlaw28_PrepaidConservesCredit.T20 : Bool × List (List Nat × List Nat) := (true, [([], []), ([], []), ([], []), ([], []), ([2, 3], [2, 3]), ([4], [4]), ([5], [5]), ([], []), ([], []), ([7, 8], [7, 8]), ([9], [9]), ([10], [10]), ([0, 1, 6, 11], [0, 1, 6, 11]), ([12], [12]), ([13], [13]), ([13], [13]), ([13], [13]), ([14, 12, 0, 1, 2, 3, 4, 5, 6, 7, 8, 9, 10, 11, 12, 13, 14], [14]), ([16, 17, 0, 1, 2, 3, 4, 5, 6, 7, 8, 9, 10, 11, 12, 13, 14, 15, 16, 17], [16])])
def crossbarlaw28_PrepaidConservesCredit.B20 : List Nat := [0, 0, 0, 0, 12, 28, 60, 0, 0, 384, 896, 1920, 4095, 8191, 16383, 16383, 16383, 32767, 262143]
theorem crossbarlaw28_PrepaidConservesCredit.tab20 : rtab .any (opsOf Tryd.f9 20) = crossbarlaw28_PrepaidConservesCredit.T20 := by kernel_rfl
theorem crossbarlaw28_PrepaidConservesCredit.bits20 : waitsOk crossbarlaw28_PrepaidConservesCredit.T20.2 crossbarlaw28_PrepaidConservesCredit.B20 = true := by kernel_rfl
def crossbarlaw28_PrepaidConservesCredit.T22 : Bool × List (List Nat × List Nat) := (true, [([], []), ([], []), ([], []), ([1, 2], [1, 2]), ([3], [3]), ([4], [4]), ([], []), ([], []), ([6, 7], [6, 7]), ([8], [8]), ([9], [9]), ([0, 5, 10], [0, 5, 10]), ([11], [11]), ([12], [12]), ([12], [12]), ([13, 11, 0, 1, 2, 3, 4, 5, 6, 7, 8, 9, 10, 11, 12, 13], [13]), ([14, 15, 0, 1, 2, 3, 4, 5, 6, 7, 8, 9, 10, 11, 12, 13, 14, 15], [14])])
def crossbarlaw28_PrepaidConservesCredit.B22 : List Nat := [0, 0, 0, 6, 14, 30, 0, 0, 192, 448, 960, 2047, 4095, 8191, 8191, 16383, 65535]
theorem crossbarlaw28_PrepaidConservesCredit.tab22 : rtab .any (opsOf Tryd.f9 22) = crossbarlaw28_PrepaidConservesCredit.T22 := by kernel_rfl
theorem crossbarlaw28_PrepaidConservesCredit.bits22 : waitsOk crossbarlaw28_PrepaidConservesCredit.T22.2 crossbarlaw28_PrepaidConservesCredit.B22 = true := by kernel_rfl
set_option maxHeartbeats 8000000 in
set_option maxRecDepth 100000 in
theorem cons_main (s0 : ByteArray) (b0 : Int) (A0 : Option Addr) (c0 : Nat) (l0 : List S54) (At : Option Addr) (ct : Nat) (tl : List S70) (Ap : Option Addr) (cp : Nat) (ops : List S54) (w : World) (hr : Kd.C k54 w A0 l0.length l0) (hc : l0.length ≤ c0) (ht : Kd.C k70 w At tl.length tl) (htc : tl.length ≤ ct) (ho : Kd.C k54 w Ap ops.length ops) (hoc : ops.length ≤ cp) (hw : opsOk ops = true) (hf : l0.length ≤ 1100 ∧ s0.size ≤ 100 ∧ tl.length ≤ 100) (h100 : ¬ 100 < (l0.length : Int)) (h60 : ¬ 60 < (ops.length : Int)) (hac : Acc s0 b0 l0) :
  Calls Tryd.prog 9 #[.agg #[.string s0, .int .i64 b0, .slice A0 l0.length c0], .agg #[.slice At tl.length ct], .slice Ap ops.length cp] w fun e w' => e = .returned (.bool true) ∧ Below w.heap.size w w' := by
 have hu31 := Tryd.underlying31
 have hu24 := Tryd.underlying24
 have hu54 := Tryd.underlying54
 have hu62 := Tryd.underlying62
 have hu64 := Tryd.underlying64
 have HR0 := Aside0.mk hr
 have HC0 := Aside0.mk hc
 have HT := Aside0.mk ht
 have HTC := Aside0.mk htc
 have HP := Aside0.mk ho
 have HPC := Aside0.mk hoc
 have HW := Aside0.mk hw
 clear hr hc ht htc ho hoc hw
 have HB := Aside0.mk (Below.refl w.heap.size w)
 have SN := Aside0.mk (sane28_is 3000 (by omega))
 have FW := Aside0.mk ((few28_is s0 b0 l0 tl).trans (congrArg some (decide_eq_true hf)))
 have c1b0 : decide (100 < (l0.length : Int)) = false := decide_eq_false h100
 have c1b1 : decide (100 < l0.length) = false := decide_eq_false (by omega)
 have c2b0 : decide (60 < (ops.length : Int)) = false := decide_eq_false h60
 have c2b1 : decide (60 < ops.length) = false := decide_eq_false (by omega)
 have OL := Aside0.mk (by omega : ops.length ≤ 60)
 have AC0 := Aside0.mk hac
 have CK := Aside0.mk (cons_check hac 3000 (by omega))
 clear hf h100 h60 hac
 go_enter Tryd.func9, Tryd.ntmps9
 go_wp2_with (first | ((with_reducible refine gate_dst (N := 3) rfl ?_); refine box_event ?hg (N := 3) ?hd (cs := #[.string s0, .int .i64 b0, .slice A0 l0.length c0]) (t := 31) ?hr ?_; (case hd => rfl); (case hg => rfl); (case hr => first | (go_simp; done) | (go_simp; rfl)); intro gq hg w1 hbox hb; have n0_ := Aside0.mk (below_step (by repeat (first | (with_reducible first | exact HB.out | apply below_alloc | apply pw_below_drewN | apply below_drew1) | exact HB.out)) hb); have BKgq := Aside0.mk hbox; have GEgq := Aside0.mk ((by rw [hg]; exact (below_size (by repeat (first | (with_reducible first | exact HB.out | apply below_alloc | apply pw_below_drewN | apply below_drew1) | exact HB.out)))) : w.heap.size ≤ gq); clear HB; have HB := n0_; clear n0_ hb hbox hg) | ((with_reducible refine gate_dst (N := 4) rfl ?_); refine box_event ?hg (N := 4) ?hd (cs := #[.slice At tl.length ct]) (t := 24) ?hr ?_; (case hd => rfl); (case hg => rfl); (case hr => first | (go_simp; done) | (go_simp; rfl)); intro gt hg w2 hbox hb; have NEgq_gt := Aside0.mk (ne_of_old (g := gq) (g' := gt) (o := .cells #[.string s0, .int .i64 b0, .slice A0 l0.length c0] 31 (0, 0)) (by (with_reducible repeat (first | refine blk_drewN ?_ _ | refine blk_drew ?_ | refine blk_alloc ?_ _)); exact BKgq.out) (by rw [hg])); have m0_ := Aside0.mk (blk_below (g := gq) (o := .cells #[.string s0, .int .i64 b0, .slice A0 l0.length c0] 31 (0, 0)) (by (with_reducible repeat (first | refine blk_drewN ?_ _ | refine blk_drew ?_ | refine blk_alloc ?_ _)); exact BKgq.out) hb); have n0_ := Aside0.mk (below_step (by repeat (first | (with_reducible first | exact HB.out | apply below_alloc | apply pw_below_drewN | apply below_drew1 | refine below_set ?_ GEgq.out) | exact HB.out)) hb); have BKgt := Aside0.mk hbox; have GEgt := Aside0.mk ((by rw [hg]; exact (below_size (by repeat (first | (with_reducible first | exact HB.out | apply below_alloc | apply pw_below_drewN | apply below_drew1 | refine below_set ?_ GEgq.out) | exact HB.out)))) : w.heap.size ≤ gt); clear BKgq; have BKgq := m0_; clear m0_; clear HB; have HB := n0_; clear n0_ hb hbox hg) | ((with_reducible refine gate_callee (f := 21) rfl ?_); refine goesL_ (some 14) rfl rfl Tryd.func21 (by kernel_rfl) rfl #[] rfl (by (try simp only [List.map_toArray, List.map_cons, List.map_nil]); first | done | rfl | (simp only [List.length_drop, List.length_take]; rfl)) ?_; (with_reducible refine (crossbarlaw28_sane.calls 3000 true _ SN.out).mono ?_); rintro e w3 ⟨rfl, hb⟩; refine ⟨_, rfl, ?_⟩; have m0_ := Aside0.mk (blk_below (g := gq) (o := .cells #[.string s0, .int .i64 b0, .slice A0 l0.length c0] 31 (0, 0)) (by (with_reducible repeat (first | refine blk_drewN ?_ _ | refine blk_drew ?_ | refine blk_alloc ?_ _)); exact BKgq.out) hb); have m1_ := Aside0.mk (blk_below (g := gt) (o := .cells #[.slice At tl.length ct] 24 (0, 0)) (by (with_reducible repeat (first | refine blk_drewN ?_ _ | refine blk_drew ?_ | refine blk_alloc ?_ _)); exact BKgt.out) hb); have n0_ := Aside0.mk (below_step (by repeat (first | (with_reducible first | exact HB.out | apply below_alloc | apply pw_below_drewN | apply below_drew1 | refine below_set ?_ GEgq.out | refine below_set ?_ GEgt.out) | exact HB.out)) hb); clear BKgq; have BKgq := m0_; clear m0_; clear BKgt; have BKgt := m1_; clear m1_; clear HB; have HB := n0_; clear n0_ hb; have hczgq0 : w3.cell? ⟨gq, 0, none⟩ = some (.string s0) := (blk_cell BKgq.out 0).trans rfl; have hfzgq0 := blk_frozen BKgq.out 0; have hczgq1 : w3.cell? ⟨gq, 1, none⟩ = some (.int .i64 b0) := (blk_cell BKgq.out 1).trans rfl; have hfzgq1 := blk_frozen BKgq.out 1; have hczgq2 : w3.cell? ⟨gq, 2, none⟩ = some (.slice A0 l0.length c0) := (blk_cell BKgq.out 2).trans rfl; have hfzgq2 := blk_frozen BKgq.out 2; have hczgt0 : w3.cell? ⟨gt, 0, none⟩ = some (.slice At tl.length ct) := (blk_cell BKgt.out 0).trans rfl; have hfzgt0 := blk_frozen BKgt.out 0) | ((with_reducible refine gate_callee (f := 22) rfl ?_); refine goesL_ (some 18) rfl rfl Tryd.func22 (by kernel_rfl) rfl #[.agg #[.string s0, .int .i64 b0, .slice A0 l0.length c0], .agg #[.slice At tl.length ct]] rfl (by (try simp only [List.map_toArray, List.map_cons, List.map_nil]); first | done | rfl | (simp only [List.length_drop, List.length_take]; rfl)) ?_; (with_reducible refine (crossbarref28_Few.calls s0 b0 A0 c0 l0 At ct tl _ _ (Kd.C_below HR0.out HB.out) HC0.out (Kd.C_below HT.out HB.out) HTC.out FW.out).mono ?_); rintro e w4 ⟨rfl, hb⟩; refine ⟨_, rfl, ?_⟩; have m0_ := Aside0.mk (blk_below (g := gq) (o := .cells #[.string s0, .int .i64 b0, .slice A0 l0.length c0] 31 (0, 0)) (by (with_reducible repeat (first | refine blk_drewN ?_ _ | refine blk_drew ?_ | refine blk_alloc ?_ _)); exact BKgq.out) hb); have m1_ := Aside0.mk (blk_below (g := gt) (o := .cells #[.slice At tl.length ct] 24 (0, 0)) (by (with_reducible repeat (first | refine blk_drewN ?_ _ | refine blk_drew ?_ | refine blk_alloc ?_ _)); exact BKgt.out) hb); have n0_ := Aside0.mk (below_step (by repeat (first | (with_reducible first | exact HB.out | apply below_alloc | apply pw_below_drewN | apply below_drew1 | refine below_set ?_ GEgq.out | refine below_set ?_ GEgt.out) | exact HB.out)) hb); clear BKgq; have BKgq := m0_; clear m0_; clear BKgt; have BKgt := m1_; clear m1_; clear HB; have HB := n0_; clear n0_ hb; clear hczgq0 hfzgq0 hczgq1 hfzgq1 hczgq2 hfzgq2; clear hczgt0 hfzgt0; have hczgq0 : w4.cell? ⟨gq, 0, none⟩ = some (.string s0) := (blk_cell BKgq.out 0).trans rfl; have hfzgq0 := blk_frozen BKgq.out 0; have hczgq1 : w4.cell? ⟨gq, 1, none⟩ = some (.int .i64 b0) := (blk_cell BKgq.out 1).trans rfl; have hfzgq1 := blk_frozen BKgq.out 1; have hczgq2 : w4.cell? ⟨gq, 2, none⟩ = some (.slice A0 l0.length c0) := (blk_cell BKgq.out 2).trans rfl; have hfzgq2 := blk_frozen BKgq.out 2) | ((with_reducible refine gate_callee (f := 29) rfl ?_); (try (refine gate_guard (by rfl) ?_; dsimp only)); refine goesL_ (some 33) rfl rfl Tryd.func29 (by kernel_rfl) rfl #[.agg #[.string s0, .int .i64 b0, .slice A0 l0.length c0]] rfl (by (try simp only [List.map_toArray, List.map_cons, List.map_nil]); first | done | rfl | (simp only [List.length_drop, List.length_take]; rfl)) ?_; (with_reducible refine (prepaid_Check.calls 3000 s0 b0 A0 c0 l0 _ _ (Kd.C_below HR0.out HB.out) HC0.out CK.out).mono ?_); rintro e w5 ⟨rfl, hb⟩; refine ⟨_, rfl, ?_⟩; have m0_ := Aside0.mk (blk_below (g := gq) (o := .cells #[.string s0, .int .i64 b0, .slice A0 l0.length c0] 31 (0, 0)) (by (with_reducible repeat (first | refine blk_drewN ?_ _ | refine blk_drew ?_ | refine blk_alloc ?_ _)); exact BKgq.out) hb); have m1_ := Aside0.mk (blk_below (g := gt) (o := .cells #[.slice At tl.length ct] 24 (0, 0)) (by (with_reducible repeat (first | refine blk_drewN ?_ _ | refine blk_drew ?_ | refine blk_alloc ?_ _)); exact BKgt.out) hb); have n0_ := Aside0.mk (below_step (by repeat (first | (with_reducible first | exact HB.out | apply below_alloc | apply pw_below_drewN | apply below_drew1 | refine below_set ?_ GEgq.out | refine below_set ?_ GEgt.out) | exact HB.out)) hb); clear BKgq; have BKgq := m0_; clear m0_; clear BKgt; have BKgt := m1_; clear m1_; clear HB; have HB := n0_; clear n0_ hb; clear hczgq0 hfzgq0 hczgq1 hfzgq1 hczgq2 hfzgq2))
 go_loopg [7] ops.length (fun kq v7 wr => ∃ (x7 : Int) (s : ByteArray) (b : Int) (A : Option Addr) (c : Nat) (l : List S54), v7 = .int .i64 x7 ∧ Aside0 (0 ≤ x7 ∧ x7 ≤ ops.length ∧ (ops.length - x7).toNat ≤ kq) ∧ Aside0 (Acc s b l) ∧ Aside0 (Kd.C k54 wr A l.length l) ∧ Aside0 (l.length ≤ c) ∧ Aside0 (wr.heap[gq]? = some (.cells #[.string s, .int .i64 b, .slice A l.length c] 31 (0, 0))) ∧ Aside0 (wr.heap[gt]? = some (.cells #[.slice At tl.length ct] 24 (0, 0))) ∧ Aside0 (Below w.heap.size w wr))
 case atStart => exact ⟨0, s0, b0, A0, c0, l0, rfl, ⟨by omega, by omega, by omega⟩, AC0, ⟨Kd.C_below HR0.out HB.out⟩, HC0, BKgq, BKgt, HB⟩
 case round =>
  clear HB BKgq BKgt c1b0 c1b1 c2b0 c2b1
  obtain ⟨x7, s, b, A, c, l, rfl, HX, AC, HR, HC, BKgq, BKgt, HB0⟩ := hrel
  have HTr := Aside0.mk (Kd.C_below HT.out HB0.out)
  have HPr := Aside0.mk (Kd.C_below HP.out HB0.out)
  have p7 := HX.out.1
  by_cases c4 : x7 < (ops.length : Int)
  ·have c4b0 : decide (x7 < (ops.length : Int)) = true := decide_eq_true c4
   obtain ⟨ad, e7, d0, d1, d2⟩ := at_T54 HPr.out x7 p7 c4
   cases e7
   have hrg := opsOk_at HW.out x7 p7 c4
   obtain ⟨⟨x0, x1, x2⟩, hx⟩ : ∃ x, rd_T54 ops x7 = x := ⟨_, rfl⟩
   rw [hx] at d0 d1 d2 hrg
   simp only at d0 d1 d2 hrg
   have D0 := Aside0.mk d0
   have D1 := Aside0.mk d1
   have D2 := Aside0.mk d2
   have RG := Aside0.mk hrg
   clear d0 d1 d2 hrg hx
   have XL := Aside0.mk c4
   have q7 := eq_true c4
   replace p7 := eq_true p7
   clear c4
   have HB := Aside0.mk (Below.refl wr.heap.size wr)
   have WE := Aside0.mk (cons_worth AC.out 3000 (by omega))
   obtain ⟨kk, hfe, hk1, hk2⟩ := cons_find AC.out x1 3000 (by omega)
   have FE := Aside0.mk hfe
   have K1 := Aside0.mk hk1
   have K2 := Aside0.mk hk2
   clear hfe hk1 hk2
   have hczgq0 : wr.cell? ⟨gq, 0, none⟩ = some (.string s) := (blk_cell BKgq.out 0).trans rfl; have hfzgq0 := blk_frozen BKgq.out 0
   have hczgq1 : wr.cell? ⟨gq, 1, none⟩ = some (.int .i64 b) := (blk_cell BKgq.out 1).trans rfl; have hfzgq1 := blk_frozen BKgq.out 1
   have hczgq2 : wr.cell? ⟨gq, 2, none⟩ = some (.slice A l.length c) := (blk_cell BKgq.out 2).trans rfl; have hfzgq2 := blk_frozen BKgq.out 2
   go_upto_region 10 with (first | ((with_reducible refine gate_callee (f := 31) rfl ?_); refine goesL_ (some 43) rfl rfl Tryd.func31 (by kernel_rfl) rfl #[.agg #[.string s, .int .i64 b, .slice A l.length c]] rfl (by (try simp only [List.map_toArray, List.map_cons, List.map_nil]); first | done | rfl | (simp only [List.length_drop, List.length_take]; rfl)) ?_; (with_reducible refine (prepaid_Worth.calls 3000 s b A c l _ _ (Kd.C_below HR.out HB.out) HC.out WE.out).mono ?_); rintro e w4 ⟨rfl, hb⟩; refine ⟨_, rfl, ?_⟩; have m0_ := Aside0.mk (blk_below (g := gq) (o := .cells #[.string s, .int .i64 b, .slice A l.length c] 31 (0, 0)) (by (with_reducible repeat (first | refine blk_drewN ?_ _ | refine blk_drew ?_ | refine blk_alloc ?_ _)); exact BKgq.out) hb); have m1_ := Aside0.mk (blk_below (g := gt) (o := .cells #[.slice At tl.length ct] 24 (0, 0)) (by (with_reducible repeat (first | refine blk_drewN ?_ _ | refine blk_drew ?_ | refine blk_alloc ?_ _)); exact BKgt.out) hb); have n0_ := Aside0.mk (below_step (by repeat (first | (with_reducible first | exact HB.out | apply below_alloc | apply pw_below_drewN | apply below_drew1) | exact HB.out)) hb); clear BKgq; have BKgq := m0_; clear m0_; clear BKgt; have BKgt := m1_; clear m1_; clear HB; have HB := n0_; clear n0_ hb; clear hczgq0 hfzgq0 hczgq1 hfzgq1 hczgq2 hfzgq2))
   have T0 := Aside0.mk ((blk_cell BKgq.out 0).trans rfl : w4.cell? ⟨gq, 0, none⟩ = some (.string s))
   have T1 := Aside0.mk ((blk_cell BKgq.out 1).trans rfl : w4.cell? ⟨gq, 1, none⟩ = some (.int .i64 b))
   have T2 := Aside0.mk ((blk_cell BKgq.out 2).trans rfl : w4.cell? ⟨gq, 2, none⟩ = some (.slice A l.length c))
   have E1 := Aside0.mk ((HB.out.cell (World.block_lt_of_cell? wr _ D1.out)).trans D1.out : w4.cell? ⟨(ad.add (x7.toNat * 3)).block, (ad.add (x7.toNat * 3)).off + 1, none⟩ = some (.int .i64 x1))
   have BD := Aside0.mk (below_drew (Below.refl w4.heap.size w4))
   refine start_ (n := 8) (S := fun w' => w'.cell? ⟨gq, 0, none⟩ = some (.string s) ∧ w'.cell? ⟨gq, 1, none⟩ = some (.int .i64 b) ∧ w'.cell? ⟨gq, 2, none⟩ = some (.slice A l.length c) ∧ w'.cell? ⟨(ad.add (x7.toNat * 3)).block, (ad.add (x7.toNat * 3)).off + 1, none⟩ = some (.int .i64 x1)) (ds := []) #[false, false, false, false, false, false, false, false] (by kernel_rfl) rfl rfl ⟨T0.out, T1.out, T2.out, E1.out⟩ (fun hHeld => ?_)
   generalize w4.drew = w8 at BD hHeld ⊢
   refine with_tabW crossbarlaw28_PrepaidConservesCredit.tab10 crossbarlaw28_PrepaidConservesCredit.bits10 (fun HT_ HW_ => ?_)
   refine pure_ (i := 1) (N := some 45) (v := ?_) (a' := ?_) #[false, true, false, false, false, false, false, false] rfl rfl (any_of HT_.out (by kernel_rfl)) (fun _ _ _ h => h) (Or.inl ⟨by rfl, ?_⟩) ?_ ?_
   rotate_left
   · intro w'
     go_simp
     with_reducible rfl
   rotate_left
   · simp only [Act.put, List.setIfInBounds_toArray, List.set_cons_zero, List.set_cons_succ, i64_w, i32_w]
     rfl
   refine pure_ (i := 2) (N := some 46) (v := ?_) (a' := ?_) #[false, true, true, false, false, false, false, false] rfl rfl (any_of HT_.out (by kernel_rfl)) (fun _ _ _ h => h) (Or.inl ⟨by rfl, ?_⟩) ?_ ?_
   rotate_left
   · intro w'
     go_simp
     with_reducible rfl
   rotate_left
   · simp only [Act.put, List.setIfInBounds_toArray, List.set_cons_zero, List.set_cons_succ, i64_w, i32_w]
     rfl
   refine pure_ (i := 3) (N := some 47) (v := ?_) (a' := ?_) #[false, true, true, true, false, false, false, false] rfl rfl (any_of HT_.out (by kernel_rfl)) (fun _ _ _ h => h) (Or.inl ⟨by rfl, ?_⟩) ?_ ?_
   rotate_left
   · intro w'
     go_simp
     with_reducible rfl
   rotate_left
   · simp only [Act.put, List.setIfInBounds_toArray, List.set_cons_zero, List.set_cons_succ, i64_w, i32_w]
     rfl
   refine pure_ (i := 4) (N := some 48) (v := ?_) (a' := ?_) #[false, true, true, true, true, false, false, false] rfl rfl (any_of HT_.out (by kernel_rfl)) (fun _ _ _ h => h) (Or.inl ⟨by rfl, ?_⟩) ?_ ?_
   rotate_left
   · intro w'
     go_simp
     with_reducible rfl
   rotate_left
   · simp only [Act.put, List.setIfInBounds_toArray, List.set_cons_zero, List.set_cons_succ, i64_w, i32_w]
     rfl
   refine take_ (i := 0) (N := some 44) (v := ?_) (a' := ?_) #[true, true, true, true, true, false, false, false] rfl rfl (take_ofW HT_.out HW_.out (by kernel_rfl)) (fun _ _ _ h => h) (Or.inl ⟨by rfl, ?_⟩) hHeld ?_ ?_
   rotate_left
   · rintro w' ⟨s0, s1, s2, s3⟩
     go_simp
     with_reducible rfl
   rotate_left
   · simp only [Act.put, List.setIfInBounds_toArray, List.set_cons_zero, List.set_cons_succ, i64_w, i32_w]
     rfl
   refine take_ (i := 5) (N := some 49) (v := ?_) (a' := ?_) #[true, true, true, true, true, true, false, false] rfl rfl (take_ofW HT_.out HW_.out (by kernel_rfl)) (fun _ _ _ h => h) (Or.inl ⟨by rfl, ?_⟩) hHeld ?_ ?_
   rotate_left
   · rintro w' ⟨s0, s1, s2, s3⟩
     go_simp
     with_reducible rfl
   rotate_left
   · simp only [Act.put, List.setIfInBounds_toArray, List.set_cons_zero, List.set_cons_succ, i64_w, i32_w]
     rfl
   refine one_ (i := 6) (N := some 50) #[true, true, true, true, true, true, true, false] rfl rfl (one_of HT_.out (by kernel_rfl)) (by decide) (fun K hK => ?_)
   refine goes_ Tryd.func25 (by kernel_rfl) rfl #[.agg #[.string s, .int .i64 b, .slice A l.length c], .int .i64 x1] (by rfl) rfl rfl (by simp only [List.map_toArray, List.map_cons, List.map_nil]; rfl) ?_
   with_reducible refine (crossbarref28_Find.calls 3000 s b A c l x1 kk _ (Kd.C_below HR.out (below_step HB.out BD.out)) HC.out FE.out).mono ?_
   rintro e wB ⟨rfl, hb9⟩
   refine ⟨_, rfl, ?_⟩
   have BD3 := Aside0.mk (below_step BD.out hb9)
   clear hb9
   refine hK.out _ _ ⟨(BD3.out.cell (World.block_lt_of_cell? w4 _ T0.out)).trans T0.out, (BD3.out.cell (World.block_lt_of_cell? w4 _ T1.out)).trans T1.out, (BD3.out.cell (World.block_lt_of_cell? w4 _ T2.out)).trans T2.out, (BD3.out.cell (World.block_lt_of_cell? w4 _ E1.out)).trans E1.out⟩ (fun hHeld => ?_)
   clear hK K
   refine norm_ (a' := ?_) ?_ ?_
   rotate_left
   · show Act.put _ (some 50) _ = _
     simp only [Act.put, List.setIfInBounds_toArray, List.set_cons_zero, List.set_cons_succ, i64_w, i32_w]
     rfl
   refine pure_ (i := 7) (N := some 10) (v := ?_) (a' := ?_) #[true, true, true, true, true, true, true, true] rfl rfl (any_of HT_.out (by kernel_rfl)) (fun _ _ _ h => h) (Or.inl ⟨by rfl, ?_⟩) ?_ ?_
   rotate_left
   · intro w'
     go_simp
     with_reducible rfl
   rotate_left
   · simp only [Act.put, List.setIfInBounds_toArray, List.set_cons_zero, List.set_cons_succ, i64_w, i32_w]
     rfl
   refine done_ (done_of HT_.out (by kernel_rfl)) ?_
   
   clear T0 T1 T2 E1
   have mgq_ := kl BKgq BD3.out
   have mgt_ := kl BKgt BD3.out
   have n0_ := Aside0.mk (below_step HB.out BD3.out)
   clear HB BKgq BKgt
   have BKgq := mgq_
   have BKgt := mgt_
   have HB := n0_
   clear n0_ mgq_ mgt_
   clear BD BD3
   go_upto_if 52 with fail
   (try simp only [Act.put, List.setIfInBounds_toArray, List.set_cons_zero, List.set_cons_succ])
   go_cut [9] (fun v9 wc => v9 = .int .i64 (heldU x1 l) ∧ Aside0 (wc.heap[gq]? = some (.cells #[.string s, .int .i64 b, .slice A l.length c] 31 (0, 0))) ∧ Aside0 (wc.heap[gt]? = some (.cells #[.slice At tl.length ct] 24 (0, 0))) ∧ Aside0 (Below wr.heap.size wr wc))
   case first =>
    by_cases c5 : 0 ≤ kk
    ·have c5b0 : decide (0 ≤ kk) = true := decide_eq_true c5
     (first | rw [c5b0] | (simp only [i64_w, i32_w]; rw [c5b0]) | skip)
     obtain ⟨hk, hh⟩ := K1.out c5
     obtain ⟨ad2, e8, y0, y1, y2⟩ := at_T54 HR.out kk c5 hk
     cases e8
     replace y1 := (HB.out.cell (World.block_lt_of_cell? wr _ y1)).trans y1
     rw [hh] at y1
     have c5p := eq_true c5
     have hkp := eq_true hk
     clear c5 hk hh y0 y2
     have hczgq0 : wB.cell? ⟨gq, 0, none⟩ = some (.string s) := (blk_cell BKgq.out 0).trans rfl; have hfzgq0 := blk_frozen BKgq.out 0
     have hczgq1 : wB.cell? ⟨gq, 1, none⟩ = some (.int .i64 b) := (blk_cell BKgq.out 1).trans rfl; have hfzgq1 := blk_frozen BKgq.out 1
     have hczgq2 : wB.cell? ⟨gq, 2, none⟩ = some (.slice (some ad2) l.length c) := (blk_cell BKgq.out 2).trans rfl; have hfzgq2 := blk_frozen BKgq.out 2
     go_wp2
     go_meet
     case rel => exact ⟨rfl, BKgq, BKgt, HB⟩
    ·have c5b0 : decide (0 ≤ kk) = false := decide_eq_false c5
     (first | rw [c5b0] | (simp only [i64_w, i32_w]; rw [c5b0]) | skip)
     have hh := K2.out c5
     clear c5
     go_wp2
     go_meet
     case rel => exact ⟨by rw [hh], BKgq, BKgt, HB⟩
   case rest =>
    clear HB BKgq BKgt
    obtain ⟨rfl, BKgq, BKgt, HB⟩ := hcut
    go_upto_region 16 with fail
    obtain ⟨gx, hgx⟩ : ∃ g, g = wc.heap.size := ⟨_, rfl⟩
    rw [← hgx]
    have NEgq_gx := kn BKgq hgx
    have NEgt_gx := kn BKgt hgx
    have GEgx := lz0 HB hgx
    have hA_ := blk_new wc (.cells #[.string ⟨#[]⟩, .int .i64 0, .slice none 0 0] 31 (0, 0))
    rw [← hgx] at hA_
    have BKgx0 := Aside0.mk hA_
    have hb0 := below_alloc (Below.refl wc.heap.size wc) (.cells #[.string ⟨#[]⟩, .int .i64 0, .slice none 0 0] 31 (0, 0))
    generalize hW_ : wc.alloc (.cells #[.string ⟨#[]⟩, .int .i64 0, .slice none 0 0] 31 (0, 0)) = wy at BKgx0 hb0 ⊢
    clear hW_ hgx hA_
    have mgq_ := kl BKgq hb0
    have mgt_ := kl BKgt hb0
    have n0_ := Aside0.mk (below_step HB.out hb0)
    clear BKgq BKgt HB hb0
    have BKgq := mgq_; have BKgt := mgt_; have HB := n0_; have BKgx := BKgx0; clear mgq_ mgt_ n0_ BKgx0
    have hd0 := (HB.out.cell (World.block_lt_of_cell? wr _ D0.out)).trans D0.out
    go_upto_block 2 with fail
    (try simp only [Act.put, List.setIfInBounds_toArray, List.set_cons_zero, List.set_cons_succ])
    go_cut [12, 13] (fun v12 v13 wc => ∃ (e want : Int) (s' : ByteArray) (b' : Int) (v' : Value) (l' : List S54), v12 = .int .i64 e ∧ v13 = .int .i64 want ∧ Aside0 (e = 0 → s' = s ∧ Acc s b' l' ∧ b' + sumU l' = want) ∧ Aside0 (Kd.R k54 54 wc wr.heap.size (fun _ => True) v' l') ∧ Aside0 (wc.heap[gq]? = some (.cells #[.string s, .int .i64 b, .slice A l.length c] 31 (0, 0))) ∧ Aside0 (wc.heap[gt]? = some (.cells #[.slice At tl.length ct] 24 (0, 0))) ∧ Aside0 (wc.heap[gx]? = some (.cells #[.string s', .int .i64 b', v'] 31 (0, 0))) ∧ Aside0 (Below wr.heap.size wr wc))
    case first =>
     by_cases c6 : x0 = 0
     ·have c6b0 : (x0 == 0) = true := beq_iff_eq.mpr c6
      clear c6
      obtain ⟨r1, r2, r3, r4, r5, he, hcl⟩ := cons_reserve AC.out tl x1 x2
      have RE := Aside0.mk he
      have CLR := Aside0.mk hcl
      clear he hcl
      go_upto_region 20 with fail
      clear hd0
      have T0 := Aside0.mk ((blk_cell BKgq.out 0).trans rfl : wy.cell? ⟨gq, 0, none⟩ = some (.string s))
      have T1 := Aside0.mk ((blk_cell BKgq.out 1).trans rfl : wy.cell? ⟨gq, 1, none⟩ = some (.int .i64 b))
      have T2 := Aside0.mk ((blk_cell BKgq.out 2).trans rfl : wy.cell? ⟨gq, 2, none⟩ = some (.slice A l.length c))
      have TG := Aside0.mk ((blk_cell BKgt.out 0).trans rfl : wy.cell? ⟨gt, 0, none⟩ = some (.slice At tl.length ct))
      have E1 := Aside0.mk ((HB.out.cell (World.block_lt_of_cell? wr _ D1.out)).trans D1.out : wy.cell? ⟨(ad.add (x7.toNat * 3)).block, (ad.add (x7.toNat * 3)).off + 1, none⟩ = some (.int .i64 x1))
      have E2 := Aside0.mk ((HB.out.cell (World.block_lt_of_cell? wr _ D2.out)).trans D2.out : wy.cell? ⟨(ad.add (x7.toNat * 3)).block, (ad.add (x7.toNat * 3)).off + 2, none⟩ = some (.int .i64 x2))
      have BD := Aside0.mk (below_drew (Below.refl wy.heap.size wy))
      refine start_ (n := 19) (S := fun w' => w'.cell? ⟨gq, 0, none⟩ = some (.string s) ∧ w'.cell? ⟨gq, 1, none⟩ = some (.int .i64 b) ∧ w'.cell? ⟨gq, 2, none⟩ = some (.slice A l.length c) ∧ w'.cell? ⟨gt, 0, none⟩ = some (.slice At tl.length ct) ∧ w'.cell? ⟨(ad.add (x7.toNat * 3)).block, (ad.add (x7.toNat * 3)).off + 1, none⟩ = some (.int .i64 x1) ∧ w'.cell? ⟨(ad.add (x7.toNat * 3)).block, (ad.add (x7.toNat * 3)).off + 2, none⟩ = some (.int .i64 x2)) (ds := [17]) #[false, false, false, false, false, false, false, false, false, false, false, false, false, false, false, false, false, false, false] (by kernel_rfl) rfl rfl ⟨T0.out, T1.out, T2.out, TG.out, E1.out, E2.out⟩ (fun hHeld => ?_)
      generalize wy.drew = w8 at BD hHeld ⊢
      refine with_tabW crossbarlaw28_PrepaidConservesCredit.tab20 crossbarlaw28_PrepaidConservesCredit.bits20 (fun HT_ HW_ => ?_)
      refine pure_ (i := 2) (N := some 88) (v := ?_) (a' := ?_) #[false, false, true, false, false, false, false, false, false, false, false, false, false, false, false, false, false, false, false] rfl rfl (any_of HT_.out (by kernel_rfl)) (fun _ _ _ h => h) (Or.inl ⟨by rfl, ?_⟩) ?_ ?_
      rotate_left
      · intro w'
        go_simp
        with_reducible rfl
      rotate_left
      · simp only [Act.put, List.setIfInBounds_toArray, List.set_cons_zero, List.set_cons_succ, i64_w, i32_w]
        rfl
      refine pure_ (i := 3) (N := some 89) (v := ?_) (a' := ?_) #[false, false, true, true, false, false, false, false, false, false, false, false, false, false, false, false, false, false, false] rfl rfl (any_of HT_.out (by kernel_rfl)) (fun _ _ _ h => h) (Or.inl ⟨by rfl, ?_⟩) ?_ ?_
      rotate_left
      · intro w'
        go_simp
        with_reducible rfl
      rotate_left
      · simp only [Act.put, List.setIfInBounds_toArray, List.set_cons_zero, List.set_cons_succ, i64_w, i32_w]
        rfl
      refine pure_ (i := 4) (N := some 90) (v := ?_) (a' := ?_) #[false, false, true, true, true, false, false, false, false, false, false, false, false, false, false, false, false, false, false] rfl rfl (any_of HT_.out (by kernel_rfl)) (fun _ _ _ h => h) (Or.inl ⟨by rfl, ?_⟩) ?_ ?_
      rotate_left
      · intro w'
        go_simp
        with_reducible rfl
      rotate_left
      · simp only [Act.put, List.setIfInBounds_toArray, List.set_cons_zero, List.set_cons_succ, i64_w, i32_w]
        rfl
      refine pure_ (i := 5) (N := some 91) (v := ?_) (a' := ?_) #[false, false, true, true, true, true, false, false, false, false, false, false, false, false, false, false, false, false, false] rfl rfl (any_of HT_.out (by kernel_rfl)) (fun _ _ _ h => h) (Or.inl ⟨by rfl, ?_⟩) ?_ ?_
      rotate_left
      · intro w'
        go_simp
        with_reducible rfl
      rotate_left
      · simp only [Act.put, List.setIfInBounds_toArray, List.set_cons_zero, List.set_cons_succ, i64_w, i32_w]
        rfl
      refine pure_ (i := 7) (N := some 93) (v := ?_) (a' := ?_) #[false, false, true, true, true, true, false, true, false, false, false, false, false, false, false, false, false, false, false] rfl rfl (any_of HT_.out (by kernel_rfl)) (fun _ _ _ h => h) (Or.inl ⟨by rfl, ?_⟩) ?_ ?_
      rotate_left
      · intro w'
        go_simp
        with_reducible rfl
      rotate_left
      · simp only [Act.put, List.setIfInBounds_toArray, List.set_cons_zero, List.set_cons_succ, i64_w, i32_w]
        rfl
      refine pure_ (i := 8) (N := some 94) (v := ?_) (a' := ?_) #[false, false, true, true, true, true, false, true, true, false, false, false, false, false, false, false, false, false, false] rfl rfl (any_of HT_.out (by kernel_rfl)) (fun _ _ _ h => h) (Or.inl ⟨by rfl, ?_⟩) ?_ ?_
      rotate_left
      · intro w'
        go_simp
        with_reducible rfl
      rotate_left
      · simp only [Act.put, List.setIfInBounds_toArray, List.set_cons_zero, List.set_cons_succ, i64_w, i32_w]
        rfl
      refine pure_ (i := 9) (N := some 95) (v := ?_) (a' := ?_) #[false, false, true, true, true, true, false, true, true, true, false, false, false, false, false, false, false, false, false] rfl rfl (any_of HT_.out (by kernel_rfl)) (fun _ _ _ h => h) (Or.inl ⟨by rfl, ?_⟩) ?_ ?_
      rotate_left
      · intro w'
        go_simp
        with_reducible rfl
      rotate_left
      · simp only [Act.put, List.setIfInBounds_toArray, List.set_cons_zero, List.set_cons_succ, i64_w, i32_w]
        rfl
      refine pure_ (i := 10) (N := some 96) (v := ?_) (a' := ?_) #[false, false, true, true, true, true, false, true, true, true, true, false, false, false, false, false, false, false, false] rfl rfl (any_of HT_.out (by kernel_rfl)) (fun _ _ _ h => h) (Or.inl ⟨by rfl, ?_⟩) ?_ ?_
      rotate_left
      · intro w'
        go_simp
        with_reducible rfl
      rotate_left
      · simp only [Act.put, List.setIfInBounds_toArray, List.set_cons_zero, List.set_cons_succ, i64_w, i32_w]
        rfl
      refine take_ (i := 0) (N := some 86) (v := ?_) (a' := ?_) #[true, false, true, true, true, true, false, true, true, true, true, false, false, false, false, false, false, false, false] rfl rfl (take_ofW HT_.out HW_.out (by kernel_rfl)) (fun _ _ _ h => h) (Or.inl ⟨by rfl, ?_⟩) hHeld ?_ ?_
      rotate_left
      · rintro w' ⟨s0, s1, s2, s3, s4, s5⟩
        go_simp
        with_reducible rfl
      rotate_left
      · simp only [Act.put, List.setIfInBounds_toArray, List.set_cons_zero, List.set_cons_succ, i64_w, i32_w]
        rfl
      refine take_ (i := 1) (N := some 87) (v := ?_) (a' := ?_) #[true, true, true, true, true, true, false, true, true, true, true, false, false, false, false, false, false, false, false] rfl rfl (take_ofW HT_.out HW_.out (by kernel_rfl)) (fun _ _ _ h => h) (Or.inl ⟨by rfl, ?_⟩) hHeld ?_ ?_
      rotate_left
      · rintro w' ⟨s0, s1, s2, s3, s4, s5⟩
        go_simp
        with_reducible rfl
      rotate_left
      · simp only [Act.put, List.setIfInBounds_toArray, List.set_cons_zero, List.set_cons_succ, i64_w, i32_w]
        rfl
      refine take_ (i := 6) (N := some 92) (v := ?_) (a' := ?_) #[true, true, true, true, true, true, true, true, true, true, true, false, false, false, false, false, false, false, false] rfl rfl (take_ofW HT_.out HW_.out (by kernel_rfl)) (fun _ _ _ h => h) (Or.inl ⟨by rfl, ?_⟩) hHeld ?_ ?_
      rotate_left
      · rintro w' ⟨s0, s1, s2, s3, s4, s5⟩
        go_simp
        with_reducible rfl
      rotate_left
      · simp only [Act.put, List.setIfInBounds_toArray, List.set_cons_zero, List.set_cons_succ, i64_w, i32_w]
        rfl
      refine take_ (i := 11) (N := some 97) (v := ?_) (a' := ?_) #[true, true, true, true, true, true, true, true, true, true, true, true, false, false, false, false, false, false, false] rfl rfl (take_ofW HT_.out HW_.out (by kernel_rfl)) (fun _ _ _ h => h) (Or.inl ⟨by rfl, ?_⟩) hHeld ?_ ?_
      rotate_left
      · rintro w' ⟨s0, s1, s2, s3, s4, s5⟩
        go_simp
        with_reducible rfl
      rotate_left
      · simp only [Act.put, List.setIfInBounds_toArray, List.set_cons_zero, List.set_cons_succ, i64_w, i32_w]
        rfl
      refine one_ (i := 12) (N := some 98) #[true, true, true, true, true, true, true, true, true, true, true, true, true, false, false, false, false, false, false] rfl rfl (one_of HT_.out (by kernel_rfl)) (by decide) (fun K hK => ?_)
      refine goes_ Tryd.func14 (by kernel_rfl) rfl #[.agg #[.string s, .int .i64 b, .slice A l.length c], .agg #[.slice At tl.length ct], .int .i64 x1, .int .i64 x2] (by rfl) rfl rfl (by simp only [List.map_toArray, List.map_cons, List.map_nil]; rfl) ?_
      with_reducible refine (prepaid_Reserve.calls s b A c l At ct tl x1 x2 r1 r2 r3 r4 r5 _ (Kd.C_below HR.out (below_step HB.out BD.out)) HC.out (Kd.C_below HTr.out (below_step HB.out BD.out)) HTC.out RE.out).mono ?_
      rintro e wB ⟨v', rfl, hy, hb9⟩
      refine ⟨_, rfl, ?_⟩
      have BD3 := Aside0.mk (below_step BD.out hb9)
      have HO := Aside0.mk (Kd.R_lower hy (Nat.le_trans (below_size HB.out) (below_size BD.out)))
      clear hb9 hy
      obtain ⟨Ax, cx, ex⟩ := Kd.R_slice HO.out
      subst ex
      refine hK.out _ _ ⟨(BD3.out.cell (World.block_lt_of_cell? wy _ T0.out)).trans T0.out, (BD3.out.cell (World.block_lt_of_cell? wy _ T1.out)).trans T1.out, (BD3.out.cell (World.block_lt_of_cell? wy _ T2.out)).trans T2.out, (BD3.out.cell (World.block_lt_of_cell? wy _ TG.out)).trans TG.out, (BD3.out.cell (World.block_lt_of_cell? wy _ E1.out)).trans E1.out, (BD3.out.cell (World.block_lt_of_cell? wy _ E2.out)).trans E2.out⟩ (fun hHeld => ?_)
      clear hK K
      refine norm_ (a' := ?_) ?_ ?_
      rotate_left
      · show Act.put _ (some 98) _ = _
        simp only [Act.put, List.setIfInBounds_toArray, List.set_cons_zero, List.set_cons_succ, i64_w, i32_w]
        rfl
      refine pure_ (i := 13) (N := some 85) (v := ?_) (a' := ?_) #[true, true, true, true, true, true, true, true, true, true, true, true, true, true, false, false, false, false, false] rfl rfl (any_of HT_.out (by kernel_rfl)) (fun _ _ _ h => h) (Or.inl ⟨by rfl, ?_⟩) ?_ ?_
      rotate_left
      · intro w'
        go_simp
        with_reducible rfl
      rotate_left
      · simp only [Act.put, List.setIfInBounds_toArray, List.set_cons_zero, List.set_cons_succ, i64_w, i32_w]
        rfl
      refine pure_ (i := 14) (N := some 99) (v := ?_) (a' := ?_) #[true, true, true, true, true, true, true, true, true, true, true, true, true, true, true, false, false, false, false] rfl rfl (any_of HT_.out (by kernel_rfl)) (fun _ _ _ h => h) (Or.inl ⟨by rfl, ?_⟩) ?_ ?_
      rotate_left
      · intro w'
        go_simp
        with_reducible rfl
      rotate_left
      · simp only [Act.put, List.setIfInBounds_toArray, List.set_cons_zero, List.set_cons_succ, i64_w, i32_w]
        rfl
      refine pure_ (i := 15) (N := some 100) (v := ?_) (a' := ?_) #[true, true, true, true, true, true, true, true, true, true, true, true, true, true, true, true, false, false, false] rfl rfl (any_of HT_.out (by kernel_rfl)) (fun _ _ _ h => h) (Or.inl ⟨by rfl, ?_⟩) ?_ ?_
      rotate_left
      · intro w'
        go_simp
        with_reducible rfl
      rotate_left
      · simp only [Act.put, List.setIfInBounds_toArray, List.set_cons_zero, List.set_cons_succ, i64_w, i32_w]
        rfl
      refine pure_ (i := 16) (N := some 101) (v := ?_) (a' := ?_) #[true, true, true, true, true, true, true, true, true, true, true, true, true, true, true, true, true, false, false] rfl rfl (any_of HT_.out (by kernel_rfl)) (fun _ _ _ h => h) (Or.inl ⟨by rfl, ?_⟩) ?_ ?_
      rotate_left
      · intro w'
        go_simp
        with_reducible rfl
      rotate_left
      · simp only [Act.put, List.setIfInBounds_toArray, List.set_cons_zero, List.set_cons_succ, i64_w, i32_w]
        rfl
      refine last_ (i := 17) (N := none) #[true, true, true, true, true, true, true, true, true, true, true, true, true, true, true, true, true, true, false] rfl rfl (one_of HT_.out (by kernel_rfl)) (by decide) (fun K hK => ?_)
      have mgq_ := kl BKgq BD3.out
      have mgt_ := kl BKgt BD3.out
      have mgx_ := kl BKgx BD3.out
      have n0_ := Aside0.mk (below_step HB.out BD3.out)
      clear HB BKgq BKgt BKgx
      have BKgq := mgq_
      have BKgt := mgt_
      have BKgx := mgx_
      have HB := n0_
      clear n0_ mgq_ mgt_ mgx_
      have hczgx0 : wB.cell? ⟨gx, 0, none⟩ = some (.string ⟨#[]⟩) := (blk_cell BKgx.out 0).trans rfl; have hfzgx0 := blk_frozen BKgx.out 0
      have hczgx1 : wB.cell? ⟨gx, 1, none⟩ = some (.int .i64 0) := (blk_cell BKgx.out 1).trans rfl; have hfzgx1 := blk_frozen BKgx.out 1
      have hczgx2 : wB.cell? ⟨gx, 2, none⟩ = some (.slice none 0 0) := (blk_cell BKgx.out 2).trans rfl; have hfzgx2 := blk_frozen BKgx.out 2
      refine skip_ (w1 := ?_) (by rfl) rfl ?_ ?_
      rotate_left
      · go_simp
        rfl
      refine hK.out _ _ ?_
      clear hK K
      refine pure_ (i := 18) (N := some 12) (v := ?_) (a' := ?_) #[true, true, true, true, true, true, true, true, true, true, true, true, true, true, true, true, true, true, true] rfl rfl (any_of HT_.out (by kernel_rfl)) (fun _ _ _ h => h) (Or.inl ⟨by rfl, ?_⟩) ?_ ?_
      rotate_left
      · intro w'
        go_simp
        with_reducible rfl
      rotate_left
      · simp only [Act.put, List.setIfInBounds_toArray, List.set_cons_zero, List.set_cons_succ, i64_w, i32_w]
        rfl
      refine done_ (done_of HT_.out (by kernel_rfl)) ?_
      
      clear hczgx0 hfzgx0 hczgx1 hfzgx1 hczgx2 hfzgx2
      clear T0 T1 T2 TG E1 E2 BD BD3
      generalize hW_ : (((wB).setCell ⟨gx, 0, none⟩ (.string r1)).setCell ⟨gx, 1, none⟩ (.int .i64 r2)).setCell ⟨gx, 2, none⟩ (.slice Ax r3.length cx) = wS
      have mgq_ := Aside0.mk (show wS.heap[gq]? = some (.cells #[.string s, .int .i64 b, .slice A l.length c] 31 (0, 0)) from by rw [← hW_]; exact blk_far (p := ⟨gx, 2, none⟩) (blk_far (p := ⟨gx, 1, none⟩) (blk_far (p := ⟨gx, 0, none⟩) BKgq.out NEgq_gx.out _) NEgq_gx.out _) NEgq_gx.out _)
      have mgt_ := Aside0.mk (show wS.heap[gt]? = some (.cells #[.slice At tl.length ct] 24 (0, 0)) from by rw [← hW_]; exact blk_far (p := ⟨gx, 2, none⟩) (blk_far (p := ⟨gx, 1, none⟩) (blk_far (p := ⟨gx, 0, none⟩) BKgt.out NEgt_gx.out _) NEgt_gx.out _) NEgt_gx.out _)
      have mgx_ := Aside0.mk (show wS.heap[gx]? = some (.cells #[.string r1, .int .i64 r2, .slice Ax r3.length cx] 31 (0, 0)) from by rw [← hW_]; exact blk_set (blk_set (blk_set BKgx.out 0 _) 1 _) 2 _)
      have n0_ := Aside0.mk (show Below wr.heap.size wr wS from by rw [← hW_]; exact below_set (j := 2) (below_set (j := 1) (below_set (j := 0) HB.out GEgx.out) GEgx.out) GEgx.out)
      have r0_ := Aside0.mk (show Kd.R k54 54 wS wr.heap.size (fun _ => True) (.slice Ax r3.length cx) r3 from by rw [← hW_]; exact Kd.R_mono (Kd.R_far (p := ⟨gx, 2, none⟩) (Kd.R_far (p := ⟨gx, 1, none⟩) (Kd.R_far (p := ⟨gx, 0, none⟩) (Kd.R_types HO.out BKgx.out (by decide)) (fun _ hk => hk.2) _) (fun _ hk => hk.2) _) (fun _ hk => hk.2) _) (fun _ _ => trivial))
      clear hW_ HB HO BKgq BKgt BKgx
      have BKgq := mgq_; have BKgt := mgt_; have BKgx := mgx_; have HB := n0_; have HO := r0_; clear mgq_ mgt_ mgx_ n0_ r0_
      go_wp2
      go_meet
      case rel => exact ⟨r5, (b + sumU l), r1, r2, .slice Ax r3.length cx, r3, rfl, (by first | rfl | (simp; done) | (simp [*]; done)), ⟨CLR.out⟩, HO, BKgq, BKgt, BKgx, HB⟩
     ·have c6b0 : (x0 == 0) = false := beq_eq_false_iff_ne.mpr c6
      clear c6
      by_cases c7 : x0 = 1
      ·have c7b0 : (x0 == 1) = true := beq_iff_eq.mpr c7
       clear c7
       obtain ⟨r1, r2, r3, r4, he, hcl⟩ := cons_settle AC.out x1 x2 RG.out
       have RE := Aside0.mk he
       have CLR := Aside0.mk hcl
       clear he hcl
       go_upto_region 22 with fail
       clear hd0
       have T0 := Aside0.mk ((blk_cell BKgq.out 0).trans rfl : wy.cell? ⟨gq, 0, none⟩ = some (.string s))
       have T1 := Aside0.mk ((blk_cell BKgq.out 1).trans rfl : wy.cell? ⟨gq, 1, none⟩ = some (.int .i64 b))
       have T2 := Aside0.mk ((blk_cell BKgq.out 2).trans rfl : wy.cell? ⟨gq, 2, none⟩ = some (.slice A l.length c))
       have E1 := Aside0.mk ((HB.out.cell (World.block_lt_of_cell? wr _ D1.out)).trans D1.out : wy.cell? ⟨(ad.add (x7.toNat * 3)).block, (ad.add (x7.toNat * 3)).off + 1, none⟩ = some (.int .i64 x1))
       have E2 := Aside0.mk ((HB.out.cell (World.block_lt_of_cell? wr _ D2.out)).trans D2.out : wy.cell? ⟨(ad.add (x7.toNat * 3)).block, (ad.add (x7.toNat * 3)).off + 2, none⟩ = some (.int .i64 x2))
       have BD := Aside0.mk (below_drew (Below.refl wy.heap.size wy))
       refine start_ (n := 17) (S := fun w' => w'.cell? ⟨gq, 0, none⟩ = some (.string s) ∧ w'.cell? ⟨gq, 1, none⟩ = some (.int .i64 b) ∧ w'.cell? ⟨gq, 2, none⟩ = some (.slice A l.length c) ∧ w'.cell? ⟨(ad.add (x7.toNat * 3)).block, (ad.add (x7.toNat * 3)).off + 1, none⟩ = some (.int .i64 x1) ∧ w'.cell? ⟨(ad.add (x7.toNat * 3)).block, (ad.add (x7.toNat * 3)).off + 2, none⟩ = some (.int .i64 x2)) (ds := [15]) #[false, false, false, false, false, false, false, false, false, false, false, false, false, false, false, false, false] (by kernel_rfl) rfl rfl ⟨T0.out, T1.out, T2.out, E1.out, E2.out⟩ (fun hHeld => ?_)
       generalize wy.drew = w8 at BD hHeld ⊢
       refine with_tabW crossbarlaw28_PrepaidConservesCredit.tab22 crossbarlaw28_PrepaidConservesCredit.bits22 (fun HT_ HW_ => ?_)
       refine pure_ (i := 1) (N := some 106) (v := ?_) (a' := ?_) #[false, true, false, false, false, false, false, false, false, false, false, false, false, false, false, false, false] rfl rfl (any_of HT_.out (by kernel_rfl)) (fun _ _ _ h => h) (Or.inl ⟨by rfl, ?_⟩) ?_ ?_
       rotate_left
       · intro w'
         go_simp
         with_reducible rfl
       rotate_left
       · simp only [Act.put, List.setIfInBounds_toArray, List.set_cons_zero, List.set_cons_succ, i64_w, i32_w]
         rfl
       refine pure_ (i := 2) (N := some 107) (v := ?_) (a' := ?_) #[false, true, true, false, false, false, false, false, false, false, false, false, false, false, false, false, false] rfl rfl (any_of HT_.out (by kernel_rfl)) (fun _ _ _ h => h) (Or.inl ⟨by rfl, ?_⟩) ?_ ?_
       rotate_left
       · intro w'
         go_simp
         with_reducible rfl
       rotate_left
       · simp only [Act.put, List.setIfInBounds_toArray, List.set_cons_zero, List.set_cons_succ, i64_w, i32_w]
         rfl
       refine pure_ (i := 3) (N := some 108) (v := ?_) (a' := ?_) #[false, true, true, true, false, false, false, false, false, false, false, false, false, false, false, false, false] rfl rfl (any_of HT_.out (by kernel_rfl)) (fun _ _ _ h => h) (Or.inl ⟨by rfl, ?_⟩) ?_ ?_
       rotate_left
       · intro w'
         go_simp
         with_reducible rfl
       rotate_left
       · simp only [Act.put, List.setIfInBounds_toArray, List.set_cons_zero, List.set_cons_succ, i64_w, i32_w]
         rfl
       refine pure_ (i := 4) (N := some 109) (v := ?_) (a' := ?_) #[false, true, true, true, true, false, false, false, false, false, false, false, false, false, false, false, false] rfl rfl (any_of HT_.out (by kernel_rfl)) (fun _ _ _ h => h) (Or.inl ⟨by rfl, ?_⟩) ?_ ?_
       rotate_left
       · intro w'
         go_simp
         with_reducible rfl
       rotate_left
       · simp only [Act.put, List.setIfInBounds_toArray, List.set_cons_zero, List.set_cons_succ, i64_w, i32_w]
         rfl
       refine pure_ (i := 6) (N := some 111) (v := ?_) (a' := ?_) #[false, true, true, true, true, false, true, false, false, false, false, false, false, false, false, false, false] rfl rfl (any_of HT_.out (by kernel_rfl)) (fun _ _ _ h => h) (Or.inl ⟨by rfl, ?_⟩) ?_ ?_
       rotate_left
       · intro w'
         go_simp
         with_reducible rfl
       rotate_left
       · simp only [Act.put, List.setIfInBounds_toArray, List.set_cons_zero, List.set_cons_succ, i64_w, i32_w]
         rfl
       refine pure_ (i := 7) (N := some 112) (v := ?_) (a' := ?_) #[false, true, true, true, true, false, true, true, false, false, false, false, false, false, false, false, false] rfl rfl (any_of HT_.out (by kernel_rfl)) (fun _ _ _ h => h) (Or.inl ⟨by rfl, ?_⟩) ?_ ?_
       rotate_left
       · intro w'
         go_simp
         with_reducible rfl
       rotate_left
       · simp only [Act.put, List.setIfInBounds_toArray, List.set_cons_zero, List.set_cons_succ, i64_w, i32_w]
         rfl
       refine pure_ (i := 8) (N := some 113) (v := ?_) (a' := ?_) #[false, true, true, true, true, false, true, true, true, false, false, false, false, false, false, false, false] rfl rfl (any_of HT_.out (by kernel_rfl)) (fun _ _ _ h => h) (Or.inl ⟨by rfl, ?_⟩) ?_ ?_
       rotate_left
       · intro w'
         go_simp
         with_reducible rfl
       rotate_left
       · simp only [Act.put, List.setIfInBounds_toArray, List.set_cons_zero, List.set_cons_succ, i64_w, i32_w]
         rfl
       refine pure_ (i := 9) (N := some 114) (v := ?_) (a' := ?_) #[false, true, true, true, true, false, true, true, true, true, false, false, false, false, false, false, false] rfl rfl (any_of HT_.out (by kernel_rfl)) (fun _ _ _ h => h) (Or.inl ⟨by rfl, ?_⟩) ?_ ?_
       rotate_left
       · intro w'
         go_simp
         with_reducible rfl
       rotate_left
       · simp only [Act.put, List.setIfInBounds_toArray, List.set_cons_zero, List.set_cons_succ, i64_w, i32_w]
         rfl
       refine take_ (i := 0) (N := some 105) (v := ?_) (a' := ?_) #[true, true, true, true, true, false, true, true, true, true, false, false, false, false, false, false, false] rfl rfl (take_ofW HT_.out HW_.out (by kernel_rfl)) (fun _ _ _ h => h) (Or.inl ⟨by rfl, ?_⟩) hHeld ?_ ?_
       rotate_left
       · rintro w' ⟨s0, s1, s2, s3, s4⟩
         go_simp
         with_reducible rfl
       rotate_left
       · simp only [Act.put, List.setIfInBounds_toArray, List.set_cons_zero, List.set_cons_succ, i64_w, i32_w]
         rfl
       refine take_ (i := 5) (N := some 110) (v := ?_) (a' := ?_) #[true, true, true, true, true, true, true, true, true, true, false, false, false, false, false, false, false] rfl rfl (take_ofW HT_.out HW_.out (by kernel_rfl)) (fun _ _ _ h => h) (Or.inl ⟨by rfl, ?_⟩) hHeld ?_ ?_
       rotate_left
       · rintro w' ⟨s0, s1, s2, s3, s4⟩
         go_simp
         with_reducible rfl
       rotate_left
       · simp only [Act.put, List.setIfInBounds_toArray, List.set_cons_zero, List.set_cons_succ, i64_w, i32_w]
         rfl
       refine take_ (i := 10) (N := some 115) (v := ?_) (a' := ?_) #[true, true, true, true, true, true, true, true, true, true, true, false, false, false, false, false, false] rfl rfl (take_ofW HT_.out HW_.out (by kernel_rfl)) (fun _ _ _ h => h) (Or.inl ⟨by rfl, ?_⟩) hHeld ?_ ?_
       rotate_left
       · rintro w' ⟨s0, s1, s2, s3, s4⟩
         go_simp
         with_reducible rfl
       rotate_left
       · simp only [Act.put, List.setIfInBounds_toArray, List.set_cons_zero, List.set_cons_succ, i64_w, i32_w]
         rfl
       refine one_ (i := 11) (N := some 116) #[true, true, true, true, true, true, true, true, true, true, true, true, false, false, false, false, false] rfl rfl (one_of HT_.out (by kernel_rfl)) (by decide) (fun K hK => ?_)
       refine goes_ Tryd.func20 (by kernel_rfl) rfl #[.agg #[.string s, .int .i64 b, .slice A l.length c], .int .i64 x1, .int .i64 x2] (by rfl) rfl rfl (by simp only [List.map_toArray, List.map_cons, List.map_nil]; rfl) ?_
       with_reducible refine (prepaid_Settle.calls s b A c l x1 x2 r1 r2 r3 r4 _ (Kd.C_below HR.out (below_step HB.out BD.out)) HC.out RE.out).mono ?_
       rintro e wB ⟨v', rfl, hy, hb9⟩
       refine ⟨_, rfl, ?_⟩
       have BD3 := Aside0.mk (below_step BD.out hb9)
       have HO := Aside0.mk (Kd.R_lower hy (Nat.le_trans (below_size HB.out) (below_size BD.out)))
       clear hb9 hy
       obtain ⟨Ax, cx, ex⟩ := Kd.R_slice HO.out
       subst ex
       refine hK.out _ _ ⟨(BD3.out.cell (World.block_lt_of_cell? wy _ T0.out)).trans T0.out, (BD3.out.cell (World.block_lt_of_cell? wy _ T1.out)).trans T1.out, (BD3.out.cell (World.block_lt_of_cell? wy _ T2.out)).trans T2.out, (BD3.out.cell (World.block_lt_of_cell? wy _ E1.out)).trans E1.out, (BD3.out.cell (World.block_lt_of_cell? wy _ E2.out)).trans E2.out⟩ (fun hHeld => ?_)
       clear hK K
       refine norm_ (a' := ?_) ?_ ?_
       rotate_left
       · show Act.put _ (some 116) _ = _
         simp only [Act.put, List.setIfInBounds_toArray, List.set_cons_zero, List.set_cons_succ, i64_w, i32_w]
         rfl
       refine pure_ (i := 12) (N := some 104) (v := ?_) (a' := ?_) #[true, true, true, true, true, true, true, true, true, true, true, true, true, false, false, false, false] rfl rfl (any_of HT_.out (by kernel_rfl)) (fun _ _ _ h => h) (Or.inl ⟨by rfl, ?_⟩) ?_ ?_
       rotate_left
       · intro w'
         go_simp
         with_reducible rfl
       rotate_left
       · simp only [Act.put, List.setIfInBounds_toArray, List.set_cons_zero, List.set_cons_succ, i64_w, i32_w]
         rfl
       refine pure_ (i := 13) (N := some 117) (v := ?_) (a' := ?_) #[true, true, true, true, true, true, true, true, true, true, true, true, true, true, false, false, false] rfl rfl (any_of HT_.out (by kernel_rfl)) (fun _ _ _ h => h) (Or.inl ⟨by rfl, ?_⟩) ?_ ?_
       rotate_left
       · intro w'
         go_simp
         with_reducible rfl
       rotate_left
       · simp only [Act.put, List.setIfInBounds_toArray, List.set_cons_zero, List.set_cons_succ, i64_w, i32_w]
         rfl
       refine pure_ (i := 14) (N := some 118) (v := ?_) (a' := ?_) #[true, true, true, true, true, true, true, true, true, true, true, true, true, true, true, false, false] rfl rfl (any_of HT_.out (by kernel_rfl)) (fun _ _ _ h => h) (Or.inl ⟨by rfl, ?_⟩) ?_ ?_
       rotate_left
       · intro w'
         go_simp
         with_reducible rfl
       rotate_left
       · simp only [Act.put, List.setIfInBounds_toArray, List.set_cons_zero, List.set_cons_succ, i64_w, i32_w]
         rfl
       refine last_ (i := 15) (N := none) #[true, true, true, true, true, true, true, true, true, true, true, true, true, true, true, true, false] rfl rfl (one_of HT_.out (by kernel_rfl)) (by decide) (fun K hK => ?_)
       have mgq_ := kl BKgq BD3.out
       have mgt_ := kl BKgt BD3.out
       have mgx_ := kl BKgx BD3.out
       have n0_ := Aside0.mk (below_step HB.out BD3.out)
       clear HB BKgq BKgt BKgx
       have BKgq := mgq_
       have BKgt := mgt_
       have BKgx := mgx_
       have HB := n0_
       clear n0_ mgq_ mgt_ mgx_
       have hczgx0 : wB.cell? ⟨gx, 0, none⟩ = some (.string ⟨#[]⟩) := (blk_cell BKgx.out 0).trans rfl; have hfzgx0 := blk_frozen BKgx.out 0
       have hczgx1 : wB.cell? ⟨gx, 1, none⟩ = some (.int .i64 0) := (blk_cell BKgx.out 1).trans rfl; have hfzgx1 := blk_frozen BKgx.out 1
       have hczgx2 : wB.cell? ⟨gx, 2, none⟩ = some (.slice none 0 0) := (blk_cell BKgx.out 2).trans rfl; have hfzgx2 := blk_frozen BKgx.out 2
       refine skip_ (w1 := ?_) (by rfl) rfl ?_ ?_
       rotate_left
       · go_simp
         rfl
       refine hK.out _ _ ?_
       clear hK K
       refine pure_ (i := 16) (N := some 12) (v := ?_) (a' := ?_) #[true, true, true, true, true, true, true, true, true, true, true, true, true, true, true, true, true] rfl rfl (any_of HT_.out (by kernel_rfl)) (fun _ _ _ h => h) (Or.inl ⟨by rfl, ?_⟩) ?_ ?_
       rotate_left
       · intro w'
         go_simp
         with_reducible rfl
       rotate_left
       · simp only [Act.put, List.setIfInBounds_toArray, List.set_cons_zero, List.set_cons_succ, i64_w, i32_w]
         rfl
       refine done_ (done_of HT_.out (by kernel_rfl)) ?_
       
       clear hczgx0 hfzgx0 hczgx1 hfzgx1 hczgx2 hfzgx2
       clear T0 T1 T2 E1 E2 BD BD3
       generalize hW_ : (((wB).setCell ⟨gx, 0, none⟩ (.string r1)).setCell ⟨gx, 1, none⟩ (.int .i64 r2)).setCell ⟨gx, 2, none⟩ (.slice Ax r3.length cx) = wS
       have mgq_ := Aside0.mk (show wS.heap[gq]? = some (.cells #[.string s, .int .i64 b, .slice A l.length c] 31 (0, 0)) from by rw [← hW_]; exact blk_far (p := ⟨gx, 2, none⟩) (blk_far (p := ⟨gx, 1, none⟩) (blk_far (p := ⟨gx, 0, none⟩) BKgq.out NEgq_gx.out _) NEgq_gx.out _) NEgq_gx.out _)
       have mgt_ := Aside0.mk (show wS.heap[gt]? = some (.cells #[.slice At tl.length ct] 24 (0, 0)) from by rw [← hW_]; exact blk_far (p := ⟨gx, 2, none⟩) (blk_far (p := ⟨gx, 1, none⟩) (blk_far (p := ⟨gx, 0, none⟩) BKgt.out NEgt_gx.out _) NEgt_gx.out _) NEgt_gx.out _)
       have mgx_ := Aside0.mk (show wS.heap[gx]? = some (.cells #[.string r1, .int .i64 r2, .slice Ax r3.length cx] 31 (0, 0)) from by rw [← hW_]; exact blk_set (blk_set (blk_set BKgx.out 0 _) 1 _) 2 _)
       have n0_ := Aside0.mk (show Below wr.heap.size wr wS from by rw [← hW_]; exact below_set (j := 2) (below_set (j := 1) (below_set (j := 0) HB.out GEgx.out) GEgx.out) GEgx.out)
       have r0_ := Aside0.mk (show Kd.R k54 54 wS wr.heap.size (fun _ => True) (.slice Ax r3.length cx) r3 from by rw [← hW_]; exact Kd.R_mono (Kd.R_far (p := ⟨gx, 2, none⟩) (Kd.R_far (p := ⟨gx, 1, none⟩) (Kd.R_far (p := ⟨gx, 0, none⟩) (Kd.R_types HO.out BKgx.out (by decide)) (fun _ hk => hk.2) _) (fun _ hk => hk.2) _) (fun _ hk => hk.2) _) (fun _ _ => trivial))
       clear hW_ HB HO BKgq BKgt BKgx
       have BKgq := mgq_; have BKgt := mgt_; have BKgx := mgx_; have HB := n0_; have HO := r0_; clear mgq_ mgt_ mgx_ n0_ r0_
       have hd2 := (HB.out.cell (World.block_lt_of_cell? wr _ D2.out)).trans D2.out
       have hczgq0 : wS.cell? ⟨gq, 0, none⟩ = some (.string s) := (blk_cell BKgq.out 0).trans rfl; have hfzgq0 := blk_frozen BKgq.out 0
       have hczgq1 : wS.cell? ⟨gq, 1, none⟩ = some (.int .i64 b) := (blk_cell BKgq.out 1).trans rfl; have hfzgq1 := blk_frozen BKgq.out 1
       have hczgq2 : wS.cell? ⟨gq, 2, none⟩ = some (.slice A l.length c) := (blk_cell BKgq.out 2).trans rfl; have hfzgq2 := blk_frozen BKgq.out 2
       go_wp2
       go_region
       have CL2 := Aside0.mk (show r4 = 0 → r1 = s ∧ Acc s r2 r3 ∧ r2 + sumU r3 = _ from fun h => ⟨(CLR.out h).1, (CLR.out h).2.1, cons_want AC.out x1 x2 (CLR.out h).2.1 (CLR.out h).2.2⟩)
       generalize (wrap64 (b + sumU l - if wrap64 (b + heldU x1 l) < x2 then wrap64 (b + heldU x1 l) else x2)) = wt at CL2 ⊢
       go_wp2
       all_goals go_meet
       all_goals exact ⟨r4, _, r1, r2, .slice Ax r3.length cx, r3, rfl, rfl, ⟨CL2.out⟩, ⟨rk HO⟩, ⟨kb BKgq⟩, ⟨kb BKgt⟩, ⟨kb BKgx⟩, ⟨lb0 HB⟩⟩
      ·have c7b0 : (x0 == 1) = false := beq_eq_false_iff_ne.mpr c7
       clear c7
       obtain ⟨r1, r2, r3, r4, he, hcl⟩ := cons_deposit AC.out x2
       have RE := Aside0.mk he
       have CLR := Aside0.mk hcl
       clear he hcl
       go_upto_region 17 with fail
       clear hd0
       have T0 := Aside0.mk ((blk_cell BKgq.out 0).trans rfl : wy.cell? ⟨gq, 0, none⟩ = some (.string s))
       have T1 := Aside0.mk ((blk_cell BKgq.out 1).trans rfl : wy.cell? ⟨gq, 1, none⟩ = some (.int .i64 b))
       have T2 := Aside0.mk ((blk_cell BKgq.out 2).trans rfl : wy.cell? ⟨gq, 2, none⟩ = some (.slice A l.length c))
       have E2 := Aside0.mk ((HB.out.cell (World.block_lt_of_cell? wr _ D2.out)).trans D2.out : wy.cell? ⟨(ad.add (x7.toNat * 3)).block, (ad.add (x7.toNat * 3)).off + 2, none⟩ = some (.int .i64 x2))
       have BD := Aside0.mk (below_drew (Below.refl wy.heap.size wy))
       refine start_ (n := 12) (S := fun w' => w'.cell? ⟨gq, 0, none⟩ = some (.string s) ∧ w'.cell? ⟨gq, 1, none⟩ = some (.int .i64 b) ∧ w'.cell? ⟨gq, 2, none⟩ = some (.slice A l.length c) ∧ w'.cell? ⟨(ad.add (x7.toNat * 3)).block, (ad.add (x7.toNat * 3)).off + 2, none⟩ = some (.int .i64 x2)) (ds := [10]) #[false, false, false, false, false, false, false, false, false, false, false, false] (by kernel_rfl) rfl rfl ⟨T0.out, T1.out, T2.out, E2.out⟩ (fun hHeld => ?_)
       generalize wy.drew = w8 at BD hHeld ⊢
       refine with_tabW crossbarlaw28_PrepaidConservesCredit.tab17 crossbarlaw28_PrepaidConservesCredit.bits17 (fun HT_ HW_ => ?_)
       refine pure_ (i := 1) (N := some 68) (v := ?_) (a' := ?_) #[false, true, false, false, false, false, false, false, false, false, false, false] rfl rfl (any_of HT_.out (by kernel_rfl)) (fun _ _ _ h => h) (Or.inl ⟨by rfl, ?_⟩) ?_ ?_
       rotate_left
       · intro w'
         go_simp
         with_reducible rfl
       rotate_left
       · simp only [Act.put, List.setIfInBounds_toArray, List.set_cons_zero, List.set_cons_succ, i64_w, i32_w]
         rfl
       refine pure_ (i := 2) (N := some 69) (v := ?_) (a' := ?_) #[false, true, true, false, false, false, false, false, false, false, false, false] rfl rfl (any_of HT_.out (by kernel_rfl)) (fun _ _ _ h => h) (Or.inl ⟨by rfl, ?_⟩) ?_ ?_
       rotate_left
       · intro w'
         go_simp
         with_reducible rfl
       rotate_left
       · simp only [Act.put, List.setIfInBounds_toArray, List.set_cons_zero, List.set_cons_succ, i64_w, i32_w]
         rfl
       refine pure_ (i := 3) (N := some 70) (v := ?_) (a' := ?_) #[false, true, true, true, false, false, false, false, false, false, false, false] rfl rfl (any_of HT_.out (by kernel_rfl)) (fun _ _ _ h => h) (Or.inl ⟨by rfl, ?_⟩) ?_ ?_
       rotate_left
       · intro w'
         go_simp
         with_reducible rfl
       rotate_left
       · simp only [Act.put, List.setIfInBounds_toArray, List.set_cons_zero, List.set_cons_succ, i64_w, i32_w]
         rfl
       refine pure_ (i := 4) (N := some 71) (v := ?_) (a' := ?_) #[false, true, true, true, true, false, false, false, false, false, false, false] rfl rfl (any_of HT_.out (by kernel_rfl)) (fun _ _ _ h => h) (Or.inl ⟨by rfl, ?_⟩) ?_ ?_
       rotate_left
       · intro w'
         go_simp
         with_reducible rfl
       rotate_left
       · simp only [Act.put, List.setIfInBounds_toArray, List.set_cons_zero, List.set_cons_succ, i64_w, i32_w]
         rfl
       refine take_ (i := 0) (N := some 67) (v := ?_) (a' := ?_) #[true, true, true, true, true, false, false, false, false, false, false, false] rfl rfl (take_ofW HT_.out HW_.out (by kernel_rfl)) (fun _ _ _ h => h) (Or.inl ⟨by rfl, ?_⟩) hHeld ?_ ?_
       rotate_left
       · rintro w' ⟨s0, s1, s2, s3⟩
         go_simp
         with_reducible rfl
       rotate_left
       · simp only [Act.put, List.setIfInBounds_toArray, List.set_cons_zero, List.set_cons_succ, i64_w, i32_w]
         rfl
       refine take_ (i := 5) (N := some 72) (v := ?_) (a' := ?_) #[true, true, true, true, true, true, false, false, false, false, false, false] rfl rfl (take_ofW HT_.out HW_.out (by kernel_rfl)) (fun _ _ _ h => h) (Or.inl ⟨by rfl, ?_⟩) hHeld ?_ ?_
       rotate_left
       · rintro w' ⟨s0, s1, s2, s3⟩
         go_simp
         with_reducible rfl
       rotate_left
       · simp only [Act.put, List.setIfInBounds_toArray, List.set_cons_zero, List.set_cons_succ, i64_w, i32_w]
         rfl
       refine one_ (i := 6) (N := some 73) #[true, true, true, true, true, true, true, false, false, false, false, false] rfl rfl (one_of HT_.out (by kernel_rfl)) (by decide) (fun K hK => ?_)
       refine goes_ Tryd.func27 (by kernel_rfl) rfl #[.agg #[.string s, .int .i64 b, .slice A l.length c], .int .i64 x2] (by rfl) rfl rfl (by simp only [List.map_toArray, List.map_cons, List.map_nil]; rfl) ?_
       with_reducible refine (prepaid_Deposit.calls s b A c l x2 r1 r2 r3 r4 _ (Kd.C_below HR.out (below_step HB.out BD.out)) HC.out RE.out).mono ?_
       rintro e wB ⟨v', rfl, hy, hb9⟩
       refine ⟨_, rfl, ?_⟩
       have BD3 := Aside0.mk (below_step BD.out hb9)
       have HO := Aside0.mk (Kd.R_lower hy (Nat.le_trans (below_size HB.out) (below_size BD.out)))
       clear hb9 hy
       obtain ⟨Ax, cx, ex⟩ := Kd.R_slice HO.out
       subst ex
       refine hK.out _ _ ⟨(BD3.out.cell (World.block_lt_of_cell? wy _ T0.out)).trans T0.out, (BD3.out.cell (World.block_lt_of_cell? wy _ T1.out)).trans T1.out, (BD3.out.cell (World.block_lt_of_cell? wy _ T2.out)).trans T2.out, (BD3.out.cell (World.block_lt_of_cell? wy _ E2.out)).trans E2.out⟩ (fun hHeld => ?_)
       clear hK K
       refine norm_ (a' := ?_) ?_ ?_
       rotate_left
       · show Act.put _ (some 73) _ = _
         simp only [Act.put, List.setIfInBounds_toArray, List.set_cons_zero, List.set_cons_succ, i64_w, i32_w]
         rfl
       refine pure_ (i := 7) (N := some 66) (v := ?_) (a' := ?_) #[true, true, true, true, true, true, true, true, false, false, false, false] rfl rfl (any_of HT_.out (by kernel_rfl)) (fun _ _ _ h => h) (Or.inl ⟨by rfl, ?_⟩) ?_ ?_
       rotate_left
       · intro w'
         go_simp
         with_reducible rfl
       rotate_left
       · simp only [Act.put, List.setIfInBounds_toArray, List.set_cons_zero, List.set_cons_succ, i64_w, i32_w]
         rfl
       refine pure_ (i := 8) (N := some 74) (v := ?_) (a' := ?_) #[true, true, true, true, true, true, true, true, true, false, false, false] rfl rfl (any_of HT_.out (by kernel_rfl)) (fun _ _ _ h => h) (Or.inl ⟨by rfl, ?_⟩) ?_ ?_
       rotate_left
       · intro w'
         go_simp
         with_reducible rfl
       rotate_left
       · simp only [Act.put, List.setIfInBounds_toArray, List.set_cons_zero, List.set_cons_succ, i64_w, i32_w]
         rfl
       refine pure_ (i := 9) (N := some 75) (v := ?_) (a' := ?_) #[true, true, true, true, true, true, true, true, true, true, false, false] rfl rfl (any_of HT_.out (by kernel_rfl)) (fun _ _ _ h => h) (Or.inl ⟨by rfl, ?_⟩) ?_ ?_
       rotate_left
       · intro w'
         go_simp
         with_reducible rfl
       rotate_left
       · simp only [Act.put, List.setIfInBounds_toArray, List.set_cons_zero, List.set_cons_succ, i64_w, i32_w]
         rfl
       refine last_ (i := 10) (N := none) #[true, true, true, true, true, true, true, true, true, true, true, false] rfl rfl (one_of HT_.out (by kernel_rfl)) (by decide) (fun K hK => ?_)
       have mgq_ := kl BKgq BD3.out
       have mgt_ := kl BKgt BD3.out
       have mgx_ := kl BKgx BD3.out
       have n0_ := Aside0.mk (below_step HB.out BD3.out)
       clear HB BKgq BKgt BKgx
       have BKgq := mgq_
       have BKgt := mgt_
       have BKgx := mgx_
       have HB := n0_
       clear n0_ mgq_ mgt_ mgx_
       have hczgx0 : wB.cell? ⟨gx, 0, none⟩ = some (.string ⟨#[]⟩) := (blk_cell BKgx.out 0).trans rfl; have hfzgx0 := blk_frozen BKgx.out 0
       have hczgx1 : wB.cell? ⟨gx, 1, none⟩ = some (.int .i64 0) := (blk_cell BKgx.out 1).trans rfl; have hfzgx1 := blk_frozen BKgx.out 1
       have hczgx2 : wB.cell? ⟨gx, 2, none⟩ = some (.slice none 0 0) := (blk_cell BKgx.out 2).trans rfl; have hfzgx2 := blk_frozen BKgx.out 2
       refine skip_ (w1 := ?_) (by rfl) rfl ?_ ?_
       rotate_left
       · go_simp
         rfl
       refine hK.out _ _ ?_
       clear hK K
       refine pure_ (i := 11) (N := some 12) (v := ?_) (a' := ?_) #[true, true, true, true, true, true, true, true, true, true, true, true] rfl rfl (any_of HT_.out (by kernel_rfl)) (fun _ _ _ h => h) (Or.inl ⟨by rfl, ?_⟩) ?_ ?_
       rotate_left
       · intro w'
         go_simp
         with_reducible rfl
       rotate_left
       · simp only [Act.put, List.setIfInBounds_toArray, List.set_cons_zero, List.set_cons_succ, i64_w, i32_w]
         rfl
       refine done_ (done_of HT_.out (by kernel_rfl)) ?_
       
       clear hczgx0 hfzgx0 hczgx1 hfzgx1 hczgx2 hfzgx2
       clear T0 T1 T2 E2 BD BD3
       generalize hW_ : (((wB).setCell ⟨gx, 0, none⟩ (.string r1)).setCell ⟨gx, 1, none⟩ (.int .i64 r2)).setCell ⟨gx, 2, none⟩ (.slice Ax r3.length cx) = wS
       have mgq_ := Aside0.mk (show wS.heap[gq]? = some (.cells #[.string s, .int .i64 b, .slice A l.length c] 31 (0, 0)) from by rw [← hW_]; exact blk_far (p := ⟨gx, 2, none⟩) (blk_far (p := ⟨gx, 1, none⟩) (blk_far (p := ⟨gx, 0, none⟩) BKgq.out NEgq_gx.out _) NEgq_gx.out _) NEgq_gx.out _)
       have mgt_ := Aside0.mk (show wS.heap[gt]? = some (.cells #[.slice At tl.length ct] 24 (0, 0)) from by rw [← hW_]; exact blk_far (p := ⟨gx, 2, none⟩) (blk_far (p := ⟨gx, 1, none⟩) (blk_far (p := ⟨gx, 0, none⟩) BKgt.out NEgt_gx.out _) NEgt_gx.out _) NEgt_gx.out _)
       have mgx_ := Aside0.mk (show wS.heap[gx]? = some (.cells #[.string r1, .int .i64 r2, .slice Ax r3.length cx] 31 (0, 0)) from by rw [← hW_]; exact blk_set (blk_set (blk_set BKgx.out 0 _) 1 _) 2 _)
       have n0_ := Aside0.mk (show Below wr.heap.size wr wS from by rw [← hW_]; exact below_set (j := 2) (below_set (j := 1) (below_set (j := 0) HB.out GEgx.out) GEgx.out) GEgx.out)
       have r0_ := Aside0.mk (show Kd.R k54 54 wS wr.heap.size (fun _ => True) (.slice Ax r3.length cx) r3 from by rw [← hW_]; exact Kd.R_mono (Kd.R_far (p := ⟨gx, 2, none⟩) (Kd.R_far (p := ⟨gx, 1, none⟩) (Kd.R_far (p := ⟨gx, 0, none⟩) (Kd.R_types HO.out BKgx.out (by decide)) (fun _ hk => hk.2) _) (fun _ hk => hk.2) _) (fun _ hk => hk.2) _) (fun _ _ => trivial))
       clear hW_ HB HO BKgq BKgt BKgx
       have BKgq := mgq_; have BKgt := mgt_; have BKgx := mgx_; have HB := n0_; have HO := r0_; clear mgq_ mgt_ mgx_ n0_ r0_
       have hd2 := (HB.out.cell (World.block_lt_of_cell? wr _ D2.out)).trans D2.out
       go_wp2
       all_goals go_meet
       all_goals exact ⟨r4, _, r1, r2, .slice Ax r3.length cx, r3, rfl, rfl, ⟨fun h => ⟨(CLR.out h).1, (CLR.out h).2.1, cons_want2 x2 (CLR.out h).2.1 (CLR.out h).2.2.1⟩⟩, ⟨rk HO⟩, ⟨kb BKgq⟩, ⟨kb BKgt⟩, ⟨kb BKgx⟩, ⟨lb0 HB⟩⟩
    case rest =>
     clear HB BKgq BKgt BKgx
     try clear hd0
     obtain ⟨e, want, s', b', v', l', rfl, rfl, CL, HO, BKgq, BKgt, BKgx, HB⟩ := hcut
     by_cases c8 : e = 0
     ·subst c8
      obtain ⟨hs1, AC2, hwant⟩ := CL.out rfl
      have hs2 := hs1.symm
      subst hs2
      have AC2 := Aside0.mk AC2
      have WT := Aside0.mk hwant
      clear hwant CL hs1
      obtain ⟨Ax, cx, ex⟩ := Kd.R_slice HO.out
      subst ex
      have CE := Aside0.mk (cons_check AC2.out 3000 (by omega))
      have WE2 := Aside0.mk (cons_worth AC2.out 3000 (by omega))
      have c9b0 : decide (b' < 0) = false := decide_eq_false (by have := AC2.out.bal; omega)
      have c9b1 : (b' + sumU l' != want) = false := by rw [WT.out]; simp
      have hczgx0 : wc.cell? ⟨gx, 0, none⟩ = some (.string s) := (blk_cell BKgx.out 0).trans rfl; have hfzgx0 := blk_frozen BKgx.out 0
      have hczgx1 : wc.cell? ⟨gx, 1, none⟩ = some (.int .i64 b') := (blk_cell BKgx.out 1).trans rfl; have hfzgx1 := blk_frozen BKgx.out 1
      have hczgx2 : wc.cell? ⟨gx, 2, none⟩ = some (.slice Ax l'.length cx) := (blk_cell BKgx.out 2).trans rfl; have hfzgx2 := blk_frozen BKgx.out 2
      go_upto_region 27 with (first | ((with_reducible refine gate_callee (f := 29) rfl ?_); refine goesL_ (some 134) rfl rfl Tryd.func29 (by kernel_rfl) rfl #[.agg #[.string s, .int .i64 b', .slice Ax l'.length cx]] rfl (by (try simp only [List.map_toArray, List.map_cons, List.map_nil]); first | done | rfl | (simp only [List.length_drop, List.length_take]; rfl)) ?_; (with_reducible refine (prepaid_Check.calls 3000 s b' Ax cx l' 0 _ (Kd.R_reads' HO.out).2.2 (Kd.R_reads' HO.out).2.1 CE.out).mono ?_); rintro e w6 ⟨rfl, hb⟩; refine ⟨_, rfl, ?_⟩; have m0_ := Aside0.mk (blk_below (g := gq) (o := .cells #[.string s, .int .i64 b, .slice A l.length c] 31 (0, 0)) (by (with_reducible repeat (first | refine blk_drewN ?_ _ | refine blk_drew ?_ | refine blk_alloc ?_ _)); exact BKgq.out) hb); have m1_ := Aside0.mk (blk_below (g := gt) (o := .cells #[.slice At tl.length ct] 24 (0, 0)) (by (with_reducible repeat (first | refine blk_drewN ?_ _ | refine blk_drew ?_ | refine blk_alloc ?_ _)); exact BKgt.out) hb); have m2_ := Aside0.mk (blk_below (g := gx) (o := .cells #[.string s, .int .i64 b', .slice Ax l'.length cx] 31 (0, 0)) (by (with_reducible repeat (first | refine blk_drewN ?_ _ | refine blk_drew ?_ | refine blk_alloc ?_ _)); exact BKgx.out) hb); have rHO_ := Aside0.mk (Kd.R_below HO.out hb); have n0_ := Aside0.mk (below_step (by repeat (first | (with_reducible first | exact HB.out | apply below_alloc | apply pw_below_drewN | apply below_drew1 | refine below_set ?_ GEgx.out) | exact HB.out)) hb); clear BKgq; have BKgq := m0_; clear m0_; clear BKgt; have BKgt := m1_; clear m1_; clear BKgx; have BKgx := m2_; clear m2_; clear HB; have HB := n0_; clear HO; have HO := rHO_; clear rHO_; clear n0_ hb; clear hczgx0 hfzgx0 hczgx1 hfzgx1 hczgx2 hfzgx2; have hczgx0 : w6.cell? ⟨gx, 0, none⟩ = some (.string s) := (blk_cell BKgx.out 0).trans rfl; have hfzgx0 := blk_frozen BKgx.out 0; have hczgx1 : w6.cell? ⟨gx, 1, none⟩ = some (.int .i64 b') := (blk_cell BKgx.out 1).trans rfl; have hfzgx1 := blk_frozen BKgx.out 1; have hczgx2 : w6.cell? ⟨gx, 2, none⟩ = some (.slice Ax l'.length cx) := (blk_cell BKgx.out 2).trans rfl; have hfzgx2 := blk_frozen BKgx.out 2) | ((with_reducible refine gate_callee (f := 31) rfl ?_); (try (refine gate_guard (by rfl) ?_; dsimp only)); refine goesL_ (some 138) rfl rfl Tryd.func31 (by kernel_rfl) rfl #[.agg #[.string s, .int .i64 b', .slice Ax l'.length cx]] rfl (by (try simp only [List.map_toArray, List.map_cons, List.map_nil]); first | done | rfl | (simp only [List.length_drop, List.length_take]; rfl)) ?_; (with_reducible refine (prepaid_Worth.calls 3000 s b' Ax cx l' (b' + sumU l') _ (Kd.R_reads' HO.out).2.2 (Kd.R_reads' HO.out).2.1 WE2.out).mono ?_); rintro e w7 ⟨rfl, hb⟩; refine ⟨_, rfl, ?_⟩; have m0_ := Aside0.mk (blk_below (g := gq) (o := .cells #[.string s, .int .i64 b, .slice A l.length c] 31 (0, 0)) (by (with_reducible repeat (first | refine blk_drewN ?_ _ | refine blk_drew ?_ | refine blk_alloc ?_ _)); exact BKgq.out) hb); have m1_ := Aside0.mk (blk_below (g := gt) (o := .cells #[.slice At tl.length ct] 24 (0, 0)) (by (with_reducible repeat (first | refine blk_drewN ?_ _ | refine blk_drew ?_ | refine blk_alloc ?_ _)); exact BKgt.out) hb); have m2_ := Aside0.mk (blk_below (g := gx) (o := .cells #[.string s, .int .i64 b', .slice Ax l'.length cx] 31 (0, 0)) (by (with_reducible repeat (first | refine blk_drewN ?_ _ | refine blk_drew ?_ | refine blk_alloc ?_ _)); exact BKgx.out) hb); have rHO_ := Aside0.mk (Kd.R_below HO.out hb); have n0_ := Aside0.mk (below_step (by repeat (first | (with_reducible first | exact HB.out | apply below_alloc | apply pw_below_drewN | apply below_drew1 | refine below_set ?_ GEgx.out) | exact HB.out)) hb); clear BKgq; have BKgq := m0_; clear m0_; clear BKgt; have BKgt := m1_; clear m1_; clear BKgx; have BKgx := m2_; clear m2_; clear HB; have HB := n0_; clear HO; have HO := rHO_; clear rHO_; clear n0_ hb; clear hczgx0 hfzgx0 hczgx1 hfzgx1 hczgx2 hfzgx2; have hczgx0 : w7.cell? ⟨gx, 0, none⟩ = some (.string s) := (blk_cell BKgx.out 0).trans rfl; have hfzgx0 := blk_frozen BKgx.out 0; have hczgx1 : w7.cell? ⟨gx, 1, none⟩ = some (.int .i64 b') := (blk_cell BKgx.out 1).trans rfl; have hfzgx1 := blk_frozen BKgx.out 1; have hczgx2 : w7.cell? ⟨gx, 2, none⟩ = some (.slice Ax l'.length cx) := (blk_cell BKgx.out 2).trans rfl; have hfzgx2 := blk_frozen BKgx.out 2; have hczgq0 : w7.cell? ⟨gq, 0, none⟩ = some (.string s) := (blk_cell BKgq.out 0).trans rfl; have hfzgq0 := blk_frozen BKgq.out 0; have hczgq1 : w7.cell? ⟨gq, 1, none⟩ = some (.int .i64 b) := (blk_cell BKgq.out 1).trans rfl; have hfzgq1 := blk_frozen BKgq.out 1; have hczgq2 : w7.cell? ⟨gq, 2, none⟩ = some (.slice A l.length c) := (blk_cell BKgq.out 2).trans rfl; have hfzgq2 := blk_frozen BKgq.out 2))
      have HBw := Aside0.mk (below_step HB0.out HB.out)
      clear HB
      have HB := HBw
      clear HBw
      go_wp2_with (first | ((with_reducible refine gate_store (t := 31) (p := 3) rfl ?_); refine store_event (t := 31) (p := 3) (v := .tmp 154) (w1 := (((w7).setCell ⟨gq, 0, none⟩ (.string s)).setCell ⟨gq, 1, none⟩ (.int .i64 b')).setCell ⟨gq, 2, none⟩ (.slice Ax l'.length cx)) ?hg ?ho ?hn ?hr ?_; (case ho => rfl); (case hg => rfl); (case hn => rfl); (case hr => first | (go_simp; done) | (go_simp; rfl)); intro w9 hw_; have m0_ := Aside0.mk (show w9.heap[gq]? = some (.cells #[.string s, .int .i64 b', .slice Ax l'.length cx] 31 (0, 0)) from by rw [hw_]; exact (blk_set ((blk_set ((blk_set (BKgq.out) 0 _)) 1 _)) 2 _)); have m1_ := Aside0.mk (show w9.heap[gt]? = some (.cells #[.slice At tl.length ct] 24 (0, 0)) from by rw [hw_]; exact (blk_far (p := ⟨gq, 2, none⟩) ((blk_far (p := ⟨gq, 1, none⟩) ((blk_far (p := ⟨gq, 0, none⟩) (BKgt.out) (Ne.symm NEgq_gt.out) _)) (Ne.symm NEgq_gt.out) _)) (Ne.symm NEgq_gt.out) _)); have n0_ := Aside0.mk (show Below w.heap.size w w9 from by rw [hw_]; exact (below_set (j := 2) ((below_set (j := 1) ((below_set (j := 0) (HB.out) GEgq.out)) GEgq.out)) GEgq.out)); have rHO_ := Aside0.mk (show Kd.R _ _ w9 _ (fun _ => True) _ _ from by rw [hw_]; exact row_any (Kd.R_far (p := ⟨gq, 2, none⟩) (Kd.R_far (p := ⟨gq, 1, none⟩) (Kd.R_far (p := ⟨gq, 0, none⟩) (row_own HO.out) (fun k_ hk_ e_ => (Ne.symm (Kd.R_ne HO.out BKgq.out (by decide))) (by rw [hk_]; exact congrArg some e_)) _) (fun k_ hk_ e_ => (Ne.symm (Kd.R_ne HO.out BKgq.out (by decide))) (by rw [hk_]; exact congrArg some e_)) _) (fun k_ hk_ e_ => (Ne.symm (Kd.R_ne HO.out BKgq.out (by decide))) (by rw [hk_]; exact congrArg some e_)) _)); clear BKgq; have BKgq := m0_; clear m0_; clear BKgt; have BKgt := m1_; clear m1_; clear HB; have HB := n0_; clear HO; have HO := rHO_; clear rHO_; clear n0_ hw_; clear hczgq0 hfzgq0 hczgq1 hfzgq1 hczgq2 hfzgq2; clear hczgx0 hfzgx0 hczgx1 hfzgx1 hczgx2 hfzgx2))
      go_roundg ((ops.length - (x7 + 1)).toNat)
      case measure => have h1 := HX.out; have h2 := XL.out; omega
      case rel => exact ⟨wrap64 (x7 + 1), s, b', Ax, cx, l', (by first | rfl | (simp; done)), ⟨by have h1 := HX.out; have h2 := XL.out; have h3 := OL.out; unfold wrap64; omega⟩, AC2, ⟨(Kd.R_reads' HO.out).2.2⟩, ⟨(Kd.R_reads' HO.out).2.1⟩, BKgq, BKgt, HB⟩
     ·have c8b0 : (e != 0) = true := bne_iff_ne.mpr c8
      clear c8 CL
      go_wp2
      go_roundg ((ops.length - (x7 + 1)).toNat)
      case measure => have h1 := HX.out; have h2 := XL.out; omega
      case rel => exact ⟨wrap64 (x7 + 1), s, b, A, c, l, (by first | rfl | (simp; done)), ⟨by have h1 := HX.out; have h2 := XL.out; have h3 := OL.out; unfold wrap64; omega⟩, AC, ⟨Kd.C_below HR.out HB.out⟩, HC, BKgq, BKgt, ⟨below_step HB0.out HB.out⟩⟩
  ·have c4b0 : decide (x7 < (ops.length : Int)) = false := decide_eq_false c4
   clear c4 p7 HTr HPr HP HT HR HX
   go_upto_region 28 with fail
   go_wp2_with fail
   go_ret
   exact ⟨rfl, HB0.out⟩

set_option maxHeartbeats 8000000 in
set_option maxRecDepth 100000 in
theorem cons_early (s0 : ByteArray) (b0 : Int) (A0 : Option Addr) (c0 : Nat) (l0 : List S54) (At : Option Addr) (ct : Nat) (tl : List S70) (Ap : Option Addr) (cp : Nat) (ops : List S54) (w : World) (hr : Kd.C k54 w A0 l0.length l0) (hc : l0.length ≤ c0) (ht : Kd.C k70 w At tl.length tl) (htc : tl.length ≤ ct) (ho : Kd.C k54 w Ap ops.length ops) (hoc : ops.length ≤ cp) (hw : opsOk ops = true) (hne : ((l0.length ≤ 1100 ∧ s0.size ≤ 100 ∧ tl.length ≤ 100) ∧ ¬ 100 < (l0.length : Int) ∧ ¬ 60 < (ops.length : Int)) → ¬ Acc s0 b0 l0) :
  Calls Tryd.prog 9 #[.agg #[.string s0, .int .i64 b0, .slice A0 l0.length c0], .agg #[.slice At tl.length ct], .slice Ap ops.length cp] w fun e w' => e = .returned (.bool true) ∧ Below w.heap.size w w' := by
 have hu31 := Tryd.underlying31
 have hu24 := Tryd.underlying24
 have hu54 := Tryd.underlying54
 have hu62 := Tryd.underlying62
 have hu64 := Tryd.underlying64
 have HR0 := Aside0.mk hr
 have HC0 := Aside0.mk hc
 have HT := Aside0.mk ht
 have HTC := Aside0.mk htc
 have HP := Aside0.mk ho
 have HPC := Aside0.mk hoc
 have HW := Aside0.mk hw
 clear hr hc ht htc ho hoc hw
 have HB := Aside0.mk (Below.refl w.heap.size w)
 have SN := Aside0.mk (sane28_is 3000 (by omega))
 obtain ⟨fv, hfv⟩ : ∃ fv, decide (l0.length ≤ 1100 ∧ s0.size ≤ 100 ∧ tl.length ≤ 100) = fv := ⟨_, rfl⟩
 have HN := Aside0.mk hne
 have HFV := Aside0.mk hfv
 clear hne
 have FW := Aside0.mk ((few28_is s0 b0 l0 tl).trans (congrArg some hfv))
 clear hfv
 cases fv with
 | false =>
  go_enter Tryd.func9, Tryd.ntmps9
  go_wp2_with (first | ((with_reducible refine gate_dst (N := 3) rfl ?_); refine box_event ?hg (N := 3) ?hd (cs := #[.string s0, .int .i64 b0, .slice A0 l0.length c0]) (t := 31) ?hr ?_; (case hd => rfl); (case hg => rfl); (case hr => first | (go_simp; done) | (go_simp; rfl)); intro gq hg w1 hbox hb; have n0_ := Aside0.mk (below_step (by repeat (first | (with_reducible first | exact HB.out | apply below_alloc | apply pw_below_drewN | apply below_drew1) | exact HB.out)) hb); have BKgq := Aside0.mk hbox; have GEgq := Aside0.mk ((by rw [hg]; exact (below_size (by repeat (first | (with_reducible first | exact HB.out | apply below_alloc | apply pw_below_drewN | apply below_drew1) | exact HB.out)))) : w.heap.size ≤ gq); clear HB; have HB := n0_; clear n0_ hb hbox hg) | ((with_reducible refine gate_dst (N := 4) rfl ?_); refine box_event ?hg (N := 4) ?hd (cs := #[.slice At tl.length ct]) (t := 24) ?hr ?_; (case hd => rfl); (case hg => rfl); (case hr => first | (go_simp; done) | (go_simp; rfl)); intro gt hg w2 hbox hb; have NEgq_gt := Aside0.mk (ne_of_old (g := gq) (g' := gt) (o := .cells #[.string s0, .int .i64 b0, .slice A0 l0.length c0] 31 (0, 0)) (by (with_reducible repeat (first | refine blk_drewN ?_ _ | refine blk_drew ?_ | refine blk_alloc ?_ _)); exact BKgq.out) (by rw [hg])); have m0_ := Aside0.mk (blk_below (g := gq) (o := .cells #[.string s0, .int .i64 b0, .slice A0 l0.length c0] 31 (0, 0)) (by (with_reducible repeat (first | refine blk_drewN ?_ _ | refine blk_drew ?_ | refine blk_alloc ?_ _)); exact BKgq.out) hb); have n0_ := Aside0.mk (below_step (by repeat (first | (with_reducible first | exact HB.out | apply below_alloc | apply pw_below_drewN | apply below_drew1 | refine below_set ?_ GEgq.out) | exact HB.out)) hb); have BKgt := Aside0.mk hbox; have GEgt := Aside0.mk ((by rw [hg]; exact (below_size (by repeat (first | (with_reducible first | exact HB.out | apply below_alloc | apply pw_below_drewN | apply below_drew1 | refine below_set ?_ GEgq.out) | exact HB.out)))) : w.heap.size ≤ gt); clear BKgq; have BKgq := m0_; clear m0_; clear HB; have HB := n0_; clear n0_ hb hbox hg) | ((with_reducible refine gate_callee (f := 21) rfl ?_); refine goesL_ (some 14) rfl rfl Tryd.func21 (by kernel_rfl) rfl #[] rfl (by (try simp only [List.map_toArray, List.map_cons, List.map_nil]); first | done | rfl | (simp only [List.length_drop, List.length_take]; rfl)) ?_; (with_reducible refine (crossbarlaw28_sane.calls 3000 true _ SN.out).mono ?_); rintro e w3 ⟨rfl, hb⟩; refine ⟨_, rfl, ?_⟩; have m0_ := Aside0.mk (blk_below (g := gq) (o := .cells #[.string s0, .int .i64 b0, .slice A0 l0.length c0] 31 (0, 0)) (by (with_reducible repeat (first | refine blk_drewN ?_ _ | refine blk_drew ?_ | refine blk_alloc ?_ _)); exact BKgq.out) hb); have m1_ := Aside0.mk (blk_below (g := gt) (o := .cells #[.slice At tl.length ct] 24 (0, 0)) (by (with_reducible repeat (first | refine blk_drewN ?_ _ | refine blk_drew ?_ | refine blk_alloc ?_ _)); exact BKgt.out) hb); have n0_ := Aside0.mk (below_step (by repeat (first | (with_reducible first | exact HB.out | apply below_alloc | apply pw_below_drewN | apply below_drew1 | refine below_set ?_ GEgq.out | refine below_set ?_ GEgt.out) | exact HB.out)) hb); clear BKgq; have BKgq := m0_; clear m0_; clear BKgt; have BKgt := m1_; clear m1_; clear HB; have HB := n0_; clear n0_ hb; have hczgq0 : w3.cell? ⟨gq, 0, none⟩ = some (.string s0) := (blk_cell BKgq.out 0).trans rfl; have hfzgq0 := blk_frozen BKgq.out 0; have hczgq1 : w3.cell? ⟨gq, 1, none⟩ = some (.int .i64 b0) := (blk_cell BKgq.out 1).trans rfl; have hfzgq1 := blk_frozen BKgq.out 1; have hczgq2 : w3.cell? ⟨gq, 2, none⟩ = some (.slice A0 l0.length c0) := (blk_cell BKgq.out 2).trans rfl; have hfzgq2 := blk_frozen BKgq.out 2; have hczgt0 : w3.cell? ⟨gt, 0, none⟩ = some (.slice At tl.length ct) := (blk_cell BKgt.out 0).trans rfl; have hfzgt0 := blk_frozen BKgt.out 0) | ((with_reducible refine gate_callee (f := 22) rfl ?_); refine goesL_ (some 18) rfl rfl Tryd.func22 (by kernel_rfl) rfl #[.agg #[.string s0, .int .i64 b0, .slice A0 l0.length c0], .agg #[.slice At tl.length ct]] rfl (by (try simp only [List.map_toArray, List.map_cons, List.map_nil]); first | done | rfl | (simp only [List.length_drop, List.length_take]; rfl)) ?_; (with_reducible refine (crossbarref28_Few.calls s0 b0 A0 c0 l0 At ct tl _ _ (Kd.C_below HR0.out HB.out) HC0.out (Kd.C_below HT.out HB.out) HTC.out FW.out).mono ?_); rintro e w4 ⟨rfl, hb⟩; refine ⟨_, rfl, ?_⟩; have m0_ := Aside0.mk (blk_below (g := gq) (o := .cells #[.string s0, .int .i64 b0, .slice A0 l0.length c0] 31 (0, 0)) (by (with_reducible repeat (first | refine blk_drewN ?_ _ | refine blk_drew ?_ | refine blk_alloc ?_ _)); exact BKgq.out) hb); have m1_ := Aside0.mk (blk_below (g := gt) (o := .cells #[.slice At tl.length ct] 24 (0, 0)) (by (with_reducible repeat (first | refine blk_drewN ?_ _ | refine blk_drew ?_ | refine blk_alloc ?_ _)); exact BKgt.out) hb); have n0_ := Aside0.mk (below_step (by repeat (first | (with_reducible first | exact HB.out | apply below_alloc | apply pw_below_drewN | apply below_drew1 | refine below_set ?_ GEgq.out | refine below_set ?_ GEgt.out) | exact HB.out)) hb); clear BKgq; have BKgq := m0_; clear m0_; clear BKgt; have BKgt := m1_; clear m1_; clear HB; have HB := n0_; clear n0_ hb; clear hczgq0 hfzgq0 hczgq1 hfzgq1 hczgq2 hfzgq2; clear hczgt0 hfzgt0; have hczgq0 : w4.cell? ⟨gq, 0, none⟩ = some (.string s0) := (blk_cell BKgq.out 0).trans rfl; have hfzgq0 := blk_frozen BKgq.out 0; have hczgq1 : w4.cell? ⟨gq, 1, none⟩ = some (.int .i64 b0) := (blk_cell BKgq.out 1).trans rfl; have hfzgq1 := blk_frozen BKgq.out 1; have hczgq2 : w4.cell? ⟨gq, 2, none⟩ = some (.slice A0 l0.length c0) := (blk_cell BKgq.out 2).trans rfl; have hfzgq2 := blk_frozen BKgq.out 2))
  go_ret
  exact ⟨rfl, by repeat (first | (with_reducible first | exact HB.out | apply below_alloc | apply pw_below_drewN | apply below_drew1 | refine below_set ?_ GEgq.out | refine below_set ?_ GEgt.out) | exact HB.out)⟩
 | true =>
  by_cases c1 : 100 < (l0.length : Int)
  ·have c1b0 : decide (100 < (l0.length : Int)) = true := decide_eq_true c1
   have c1b1 : decide (100 < l0.length) = true := decide_eq_true (by omega)
   clear c1
   go_enter Tryd.func9, Tryd.ntmps9
   go_wp2_with (first | ((with_reducible refine gate_dst (N := 3) rfl ?_); refine box_event ?hg (N := 3) ?hd (cs := #[.string s0, .int .i64 b0, .slice A0 l0.length c0]) (t := 31) ?hr ?_; (case hd => rfl); (case hg => rfl); (case hr => first | (go_simp; done) | (go_simp; rfl)); intro gq hg w1 hbox hb; have n0_ := Aside0.mk (below_step (by repeat (first | (with_reducible first | exact HB.out | apply below_alloc | apply pw_below_drewN | apply below_drew1) | exact HB.out)) hb); have BKgq := Aside0.mk hbox; have GEgq := Aside0.mk ((by rw [hg]; exact (below_size (by repeat (first | (with_reducible first | exact HB.out | apply below_alloc | apply pw_below_drewN | apply below_drew1) | exact HB.out)))) : w.heap.size ≤ gq); clear HB; have HB := n0_; clear n0_ hb hbox hg) | ((with_reducible refine gate_dst (N := 4) rfl ?_); refine box_event ?hg (N := 4) ?hd (cs := #[.slice At tl.length ct]) (t := 24) ?hr ?_; (case hd => rfl); (case hg => rfl); (case hr => first | (go_simp; done) | (go_simp; rfl)); intro gt hg w2 hbox hb; have NEgq_gt := Aside0.mk (ne_of_old (g := gq) (g' := gt) (o := .cells #[.string s0, .int .i64 b0, .slice A0 l0.length c0] 31 (0, 0)) (by (with_reducible repeat (first | refine blk_drewN ?_ _ | refine blk_drew ?_ | refine blk_alloc ?_ _)); exact BKgq.out) (by rw [hg])); have m0_ := Aside0.mk (blk_below (g := gq) (o := .cells #[.string s0, .int .i64 b0, .slice A0 l0.length c0] 31 (0, 0)) (by (with_reducible repeat (first | refine blk_drewN ?_ _ | refine blk_drew ?_ | refine blk_alloc ?_ _)); exact BKgq.out) hb); have n0_ := Aside0.mk (below_step (by repeat (first | (with_reducible first | exact HB.out | apply below_alloc | apply pw_below_drewN | apply below_drew1 | refine below_set ?_ GEgq.out) | exact HB.out)) hb); have BKgt := Aside0.mk hbox; have GEgt := Aside0.mk ((by rw [hg]; exact (below_size (by repeat (first | (with_reducible first | exact HB.out | apply below_alloc | apply pw_below_drewN | apply below_drew1 | refine below_set ?_ GEgq.out) | exact HB.out)))) : w.heap.size ≤ gt); clear BKgq; have BKgq := m0_; clear m0_; clear HB; have HB := n0_; clear n0_ hb hbox hg) | ((with_reducible refine gate_callee (f := 21) rfl ?_); refine goesL_ (some 14) rfl rfl Tryd.func21 (by kernel_rfl) rfl #[] rfl (by (try simp only [List.map_toArray, List.map_cons, List.map_nil]); first | done | rfl | (simp only [List.length_drop, List.length_take]; rfl)) ?_; (with_reducible refine (crossbarlaw28_sane.calls 3000 true _ SN.out).mono ?_); rintro e w3 ⟨rfl, hb⟩; refine ⟨_, rfl, ?_⟩; have m0_ := Aside0.mk (blk_below (g := gq) (o := .cells #[.string s0, .int .i64 b0, .slice A0 l0.length c0] 31 (0, 0)) (by (with_reducible repeat (first | refine blk_drewN ?_ _ | refine blk_drew ?_ | refine blk_alloc ?_ _)); exact BKgq.out) hb); have m1_ := Aside0.mk (blk_below (g := gt) (o := .cells #[.slice At tl.length ct] 24 (0, 0)) (by (with_reducible repeat (first | refine blk_drewN ?_ _ | refine blk_drew ?_ | refine blk_alloc ?_ _)); exact BKgt.out) hb); have n0_ := Aside0.mk (below_step (by repeat (first | (with_reducible first | exact HB.out | apply below_alloc | apply pw_below_drewN | apply below_drew1 | refine below_set ?_ GEgq.out | refine below_set ?_ GEgt.out) | exact HB.out)) hb); clear BKgq; have BKgq := m0_; clear m0_; clear BKgt; have BKgt := m1_; clear m1_; clear HB; have HB := n0_; clear n0_ hb; have hczgq0 : w3.cell? ⟨gq, 0, none⟩ = some (.string s0) := (blk_cell BKgq.out 0).trans rfl; have hfzgq0 := blk_frozen BKgq.out 0; have hczgq1 : w3.cell? ⟨gq, 1, none⟩ = some (.int .i64 b0) := (blk_cell BKgq.out 1).trans rfl; have hfzgq1 := blk_frozen BKgq.out 1; have hczgq2 : w3.cell? ⟨gq, 2, none⟩ = some (.slice A0 l0.length c0) := (blk_cell BKgq.out 2).trans rfl; have hfzgq2 := blk_frozen BKgq.out 2; have hczgt0 : w3.cell? ⟨gt, 0, none⟩ = some (.slice At tl.length ct) := (blk_cell BKgt.out 0).trans rfl; have hfzgt0 := blk_frozen BKgt.out 0) | ((with_reducible refine gate_callee (f := 22) rfl ?_); refine goesL_ (some 18) rfl rfl Tryd.func22 (by kernel_rfl) rfl #[.agg #[.string s0, .int .i64 b0, .slice A0 l0.length c0], .agg #[.slice At tl.length ct]] rfl (by (try simp only [List.map_toArray, List.map_cons, List.map_nil]); first | done | rfl | (simp only [List.length_drop, List.length_take]; rfl)) ?_; (with_reducible refine (crossbarref28_Few.calls s0 b0 A0 c0 l0 At ct tl _ _ (Kd.C_below HR0.out HB.out) HC0.out (Kd.C_below HT.out HB.out) HTC.out FW.out).mono ?_); rintro e w4 ⟨rfl, hb⟩; refine ⟨_, rfl, ?_⟩; have m0_ := Aside0.mk (blk_below (g := gq) (o := .cells #[.string s0, .int .i64 b0, .slice A0 l0.length c0] 31 (0, 0)) (by (with_reducible repeat (first | refine blk_drewN ?_ _ | refine blk_drew ?_ | refine blk_alloc ?_ _)); exact BKgq.out) hb); have m1_ := Aside0.mk (blk_below (g := gt) (o := .cells #[.slice At tl.length ct] 24 (0, 0)) (by (with_reducible repeat (first | refine blk_drewN ?_ _ | refine blk_drew ?_ | refine blk_alloc ?_ _)); exact BKgt.out) hb); have n0_ := Aside0.mk (below_step (by repeat (first | (with_reducible first | exact HB.out | apply below_alloc | apply pw_below_drewN | apply below_drew1 | refine below_set ?_ GEgq.out | refine below_set ?_ GEgt.out) | exact HB.out)) hb); clear BKgq; have BKgq := m0_; clear m0_; clear BKgt; have BKgt := m1_; clear m1_; clear HB; have HB := n0_; clear n0_ hb; clear hczgq0 hfzgq0 hczgq1 hfzgq1 hczgq2 hfzgq2; clear hczgt0 hfzgt0; have hczgq0 : w4.cell? ⟨gq, 0, none⟩ = some (.string s0) := (blk_cell BKgq.out 0).trans rfl; have hfzgq0 := blk_frozen BKgq.out 0; have hczgq1 : w4.cell? ⟨gq, 1, none⟩ = some (.int .i64 b0) := (blk_cell BKgq.out 1).trans rfl; have hfzgq1 := blk_frozen BKgq.out 1; have hczgq2 : w4.cell? ⟨gq, 2, none⟩ = some (.slice A0 l0.length c0) := (blk_cell BKgq.out 2).trans rfl; have hfzgq2 := blk_frozen BKgq.out 2))
   go_ret
   exact ⟨rfl, by repeat (first | (with_reducible first | exact HB.out | apply below_alloc | apply pw_below_drewN | apply below_drew1 | refine below_set ?_ GEgq.out | refine below_set ?_ GEgt.out) | exact HB.out)⟩
  ·have HC1 := Aside0.mk c1
   have c1b0 : decide (100 < (l0.length : Int)) = false := decide_eq_false c1
   have c1b1 : decide (100 < l0.length) = false := decide_eq_false (by omega)
   clear c1
   by_cases c2 : 60 < (ops.length : Int)
   ·have c2b0 : decide (60 < (ops.length : Int)) = true := decide_eq_true c2
    have c2b1 : decide (60 < ops.length) = true := decide_eq_true (by omega)
    clear c2
    go_enter Tryd.func9, Tryd.ntmps9
    go_wp2_with (first | ((with_reducible refine gate_dst (N := 3) rfl ?_); refine box_event ?hg (N := 3) ?hd (cs := #[.string s0, .int .i64 b0, .slice A0 l0.length c0]) (t := 31) ?hr ?_; (case hd => rfl); (case hg => rfl); (case hr => first | (go_simp; done) | (go_simp; rfl)); intro gq hg w1 hbox hb; have n0_ := Aside0.mk (below_step (by repeat (first | (with_reducible first | exact HB.out | apply below_alloc | apply pw_below_drewN | apply below_drew1) | exact HB.out)) hb); have BKgq := Aside0.mk hbox; have GEgq := Aside0.mk ((by rw [hg]; exact (below_size (by repeat (first | (with_reducible first | exact HB.out | apply below_alloc | apply pw_below_drewN | apply below_drew1) | exact HB.out)))) : w.heap.size ≤ gq); clear HB; have HB := n0_; clear n0_ hb hbox hg) | ((with_reducible refine gate_dst (N := 4) rfl ?_); refine box_event ?hg (N := 4) ?hd (cs := #[.slice At tl.length ct]) (t := 24) ?hr ?_; (case hd => rfl); (case hg => rfl); (case hr => first | (go_simp; done) | (go_simp; rfl)); intro gt hg w2 hbox hb; have NEgq_gt := Aside0.mk (ne_of_old (g := gq) (g' := gt) (o := .cells #[.string s0, .int .i64 b0, .slice A0 l0.length c0] 31 (0, 0)) (by (with_reducible repeat (first | refine blk_drewN ?_ _ | refine blk_drew ?_ | refine blk_alloc ?_ _)); exact BKgq.out) (by rw [hg])); have m0_ := Aside0.mk (blk_below (g := gq) (o := .cells #[.string s0, .int .i64 b0, .slice A0 l0.length c0] 31 (0, 0)) (by (with_reducible repeat (first | refine blk_drewN ?_ _ | refine blk_drew ?_ | refine blk_alloc ?_ _)); exact BKgq.out) hb); have n0_ := Aside0.mk (below_step (by repeat (first | (with_reducible first | exact HB.out | apply below_alloc | apply pw_below_drewN | apply below_drew1 | refine below_set ?_ GEgq.out) | exact HB.out)) hb); have BKgt := Aside0.mk hbox; have GEgt := Aside0.mk ((by rw [hg]; exact (below_size (by repeat (first | (with_reducible first | exact HB.out | apply below_alloc | apply pw_below_drewN | apply below_drew1 | refine below_set ?_ GEgq.out) | exact HB.out)))) : w.heap.size ≤ gt); clear BKgq; have BKgq := m0_; clear m0_; clear HB; have HB := n0_; clear n0_ hb hbox hg) | ((with_reducible refine gate_callee (f := 21) rfl ?_); refine goesL_ (some 14) rfl rfl Tryd.func21 (by kernel_rfl) rfl #[] rfl (by (try simp only [List.map_toArray, List.map_cons, List.map_nil]); first | done | rfl | (simp only [List.length_drop, List.length_take]; rfl)) ?_; (with_reducible refine (crossbarlaw28_sane.calls 3000 true _ SN.out).mono ?_); rintro e w3 ⟨rfl, hb⟩; refine ⟨_, rfl, ?_⟩; have m0_ := Aside0.mk (blk_below (g := gq) (o := .cells #[.string s0, .int .i64 b0, .slice A0 l0.length c0] 31 (0, 0)) (by (with_reducible repeat (first | refine blk_drewN ?_ _ | refine blk_drew ?_ | refine blk_alloc ?_ _)); exact BKgq.out) hb); have m1_ := Aside0.mk (blk_below (g := gt) (o := .cells #[.slice At tl.length ct] 24 (0, 0)) (by (with_reducible repeat (first | refine blk_drewN ?_ _ | refine blk_drew ?_ | refine blk_alloc ?_ _)); exact BKgt.out) hb); have n0_ := Aside0.mk (below_step (by repeat (first | (with_reducible first | exact HB.out | apply below_alloc | apply pw_below_drewN | apply below_drew1 | refine below_set ?_ GEgq.out | refine below_set ?_ GEgt.out) | exact HB.out)) hb); clear BKgq; have BKgq := m0_; clear m0_; clear BKgt; have BKgt := m1_; clear m1_; clear HB; have HB := n0_; clear n0_ hb; have hczgq0 : w3.cell? ⟨gq, 0, none⟩ = some (.string s0) := (blk_cell BKgq.out 0).trans rfl; have hfzgq0 := blk_frozen BKgq.out 0; have hczgq1 : w3.cell? ⟨gq, 1, none⟩ = some (.int .i64 b0) := (blk_cell BKgq.out 1).trans rfl; have hfzgq1 := blk_frozen BKgq.out 1; have hczgq2 : w3.cell? ⟨gq, 2, none⟩ = some (.slice A0 l0.length c0) := (blk_cell BKgq.out 2).trans rfl; have hfzgq2 := blk_frozen BKgq.out 2; have hczgt0 : w3.cell? ⟨gt, 0, none⟩ = some (.slice At tl.length ct) := (blk_cell BKgt.out 0).trans rfl; have hfzgt0 := blk_frozen BKgt.out 0) | ((with_reducible refine gate_callee (f := 22) rfl ?_); refine goesL_ (some 18) rfl rfl Tryd.func22 (by kernel_rfl) rfl #[.agg #[.string s0, .int .i64 b0, .slice A0 l0.length c0], .agg #[.slice At tl.length ct]] rfl (by (try simp only [List.map_toArray, List.map_cons, List.map_nil]); first | done | rfl | (simp only [List.length_drop, List.length_take]; rfl)) ?_; (with_reducible refine (crossbarref28_Few.calls s0 b0 A0 c0 l0 At ct tl _ _ (Kd.C_below HR0.out HB.out) HC0.out (Kd.C_below HT.out HB.out) HTC.out FW.out).mono ?_); rintro e w4 ⟨rfl, hb⟩; refine ⟨_, rfl, ?_⟩; have m0_ := Aside0.mk (blk_below (g := gq) (o := .cells #[.string s0, .int .i64 b0, .slice A0 l0.length c0] 31 (0, 0)) (by (with_reducible repeat (first | refine blk_drewN ?_ _ | refine blk_drew ?_ | refine blk_alloc ?_ _)); exact BKgq.out) hb); have m1_ := Aside0.mk (blk_below (g := gt) (o := .cells #[.slice At tl.length ct] 24 (0, 0)) (by (with_reducible repeat (first | refine blk_drewN ?_ _ | refine blk_drew ?_ | refine blk_alloc ?_ _)); exact BKgt.out) hb); have n0_ := Aside0.mk (below_step (by repeat (first | (with_reducible first | exact HB.out | apply below_alloc | apply pw_below_drewN | apply below_drew1 | refine below_set ?_ GEgq.out | refine below_set ?_ GEgt.out) | exact HB.out)) hb); clear BKgq; have BKgq := m0_; clear m0_; clear BKgt; have BKgt := m1_; clear m1_; clear HB; have HB := n0_; clear n0_ hb; clear hczgq0 hfzgq0 hczgq1 hfzgq1 hczgq2 hfzgq2; clear hczgt0 hfzgt0; have hczgq0 : w4.cell? ⟨gq, 0, none⟩ = some (.string s0) := (blk_cell BKgq.out 0).trans rfl; have hfzgq0 := blk_frozen BKgq.out 0; have hczgq1 : w4.cell? ⟨gq, 1, none⟩ = some (.int .i64 b0) := (blk_cell BKgq.out 1).trans rfl; have hfzgq1 := blk_frozen BKgq.out 1; have hczgq2 : w4.cell? ⟨gq, 2, none⟩ = some (.slice A0 l0.length c0) := (blk_cell BKgq.out 2).trans rfl; have hfzgq2 := blk_frozen BKgq.out 2))
    go_ret
    exact ⟨rfl, by repeat (first | (with_reducible first | exact HB.out | apply below_alloc | apply pw_below_drewN | apply below_drew1 | refine below_set ?_ GEgq.out | refine below_set ?_ GEgt.out) | exact HB.out)⟩
   ·have HC2 := Aside0.mk c2
    have c2b0 : decide (60 < (ops.length : Int)) = false := decide_eq_false c2
    have c2b1 : decide (60 < ops.length) = false := decide_eq_false (by omega)
    have OL := Aside0.mk (by omega : ops.length ≤ 60)
    clear c2
    obtain ⟨ev, hev⟩ : ∃ ev, pchk s0 b0 l0 = ev := ⟨_, rfl⟩
    have CK := Aside0.mk ((pcheck_is s0 b0 l0 3000 (by omega)).trans (congrArg some hev))
    by_cases c3 : ev = 0
    ·exact absurd ((pchk_zero s0 b0 l0).1 (hev.trans c3)) (HN.out ⟨of_decide_eq_true HFV.out, HC1.out, HC2.out⟩)
    ·have c3b0 : (ev == 0) = false := beq_eq_false_iff_ne.mpr c3
     have c3b1 : (ev != 0) = true := bne_iff_ne.mpr c3
     clear c3 hev
     go_enter Tryd.func9, Tryd.ntmps9
     go_wp2_with (first | ((with_reducible refine gate_dst (N := 3) rfl ?_); refine box_event ?hg (N := 3) ?hd (cs := #[.string s0, .int .i64 b0, .slice A0 l0.length c0]) (t := 31) ?hr ?_; (case hd => rfl); (case hg => rfl); (case hr => first | (go_simp; done) | (go_simp; rfl)); intro gq hg w1 hbox hb; have n0_ := Aside0.mk (below_step (by repeat (first | (with_reducible first | exact HB.out | apply below_alloc | apply pw_below_drewN | apply below_drew1) | exact HB.out)) hb); have BKgq := Aside0.mk hbox; have GEgq := Aside0.mk ((by rw [hg]; exact (below_size (by repeat (first | (with_reducible first | exact HB.out | apply below_alloc | apply pw_below_drewN | apply below_drew1) | exact HB.out)))) : w.heap.size ≤ gq); clear HB; have HB := n0_; clear n0_ hb hbox hg) | ((with_reducible refine gate_dst (N := 4) rfl ?_); refine box_event ?hg (N := 4) ?hd (cs := #[.slice At tl.length ct]) (t := 24) ?hr ?_; (case hd => rfl); (case hg => rfl); (case hr => first | (go_simp; done) | (go_simp; rfl)); intro gt hg w2 hbox hb; have NEgq_gt := Aside0.mk (ne_of_old (g := gq) (g' := gt) (o := .cells #[.string s0, .int .i64 b0, .slice A0 l0.length c0] 31 (0, 0)) (by (with_reducible repeat (first | refine blk_drewN ?_ _ | refine blk_drew ?_ | refine blk_alloc ?_ _)); exact BKgq.out) (by rw [hg])); have m0_ := Aside0.mk (blk_below (g := gq) (o := .cells #[.string s0, .int .i64 b0, .slice A0 l0.length c0] 31 (0, 0)) (by (with_reducible repeat (first | refine blk_drewN ?_ _ | refine blk_drew ?_ | refine blk_alloc ?_ _)); exact BKgq.out) hb); have n0_ := Aside0.mk (below_step (by repeat (first | (with_reducible first | exact HB.out | apply below_alloc | apply pw_below_drewN | apply below_drew1 | refine below_set ?_ GEgq.out) | exact HB.out)) hb); have BKgt := Aside0.mk hbox; have GEgt := Aside0.mk ((by rw [hg]; exact (below_size (by repeat (first | (with_reducible first | exact HB.out | apply below_alloc | apply pw_below_drewN | apply below_drew1 | refine below_set ?_ GEgq.out) | exact HB.out)))) : w.heap.size ≤ gt); clear BKgq; have BKgq := m0_; clear m0_; clear HB; have HB := n0_; clear n0_ hb hbox hg) | ((with_reducible refine gate_callee (f := 21) rfl ?_); refine goesL_ (some 14) rfl rfl Tryd.func21 (by kernel_rfl) rfl #[] rfl (by (try simp only [List.map_toArray, List.map_cons, List.map_nil]); first | done | rfl | (simp only [List.length_drop, List.length_take]; rfl)) ?_; (with_reducible refine (crossbarlaw28_sane.calls 3000 true _ SN.out).mono ?_); rintro e w3 ⟨rfl, hb⟩; refine ⟨_, rfl, ?_⟩; have m0_ := Aside0.mk (blk_below (g := gq) (o := .cells #[.string s0, .int .i64 b0, .slice A0 l0.length c0] 31 (0, 0)) (by (with_reducible repeat (first | refine blk_drewN ?_ _ | refine blk_drew ?_ | refine blk_alloc ?_ _)); exact BKgq.out) hb); have m1_ := Aside0.mk (blk_below (g := gt) (o := .cells #[.slice At tl.length ct] 24 (0, 0)) (by (with_reducible repeat (first | refine blk_drewN ?_ _ | refine blk_drew ?_ | refine blk_alloc ?_ _)); exact BKgt.out) hb); have n0_ := Aside0.mk (below_step (by repeat (first | (with_reducible first | exact HB.out | apply below_alloc | apply pw_below_drewN | apply below_drew1 | refine below_set ?_ GEgq.out | refine below_set ?_ GEgt.out) | exact HB.out)) hb); clear BKgq; have BKgq := m0_; clear m0_; clear BKgt; have BKgt := m1_; clear m1_; clear HB; have HB := n0_; clear n0_ hb; have hczgq0 : w3.cell? ⟨gq, 0, none⟩ = some (.string s0) := (blk_cell BKgq.out 0).trans rfl; have hfzgq0 := blk_frozen BKgq.out 0; have hczgq1 : w3.cell? ⟨gq, 1, none⟩ = some (.int .i64 b0) := (blk_cell BKgq.out 1).trans rfl; have hfzgq1 := blk_frozen BKgq.out 1; have hczgq2 : w3.cell? ⟨gq, 2, none⟩ = some (.slice A0 l0.length c0) := (blk_cell BKgq.out 2).trans rfl; have hfzgq2 := blk_frozen BKgq.out 2; have hczgt0 : w3.cell? ⟨gt, 0, none⟩ = some (.slice At tl.length ct) := (blk_cell BKgt.out 0).trans rfl; have hfzgt0 := blk_frozen BKgt.out 0) | ((with_reducible refine gate_callee (f := 22) rfl ?_); refine goesL_ (some 18) rfl rfl Tryd.func22 (by kernel_rfl) rfl #[.agg #[.string s0, .int .i64 b0, .slice A0 l0.length c0], .agg #[.slice At tl.length ct]] rfl (by (try simp only [List.map_toArray, List.map_cons, List.map_nil]); first | done | rfl | (simp only [List.length_drop, List.length_take]; rfl)) ?_; (with_reducible refine (crossbarref28_Few.calls s0 b0 A0 c0 l0 At ct tl _ _ (Kd.C_below HR0.out HB.out) HC0.out (Kd.C_below HT.out HB.out) HTC.out FW.out).mono ?_); rintro e w4 ⟨rfl, hb⟩; refine ⟨_, rfl, ?_⟩; have m0_ := Aside0.mk (blk_below (g := gq) (o := .cells #[.string s0, .int .i64 b0, .slice A0 l0.length c0] 31 (0, 0)) (by (with_reducible repeat (first | refine blk_drewN ?_ _ | refine blk_drew ?_ | refine blk_alloc ?_ _)); exact BKgq.out) hb); have m1_ := Aside0.mk (blk_below (g := gt) (o := .cells #[.slice At tl.length ct] 24 (0, 0)) (by (with_reducible repeat (first | refine blk_drewN ?_ _ | refine blk_drew ?_ | refine blk_alloc ?_ _)); exact BKgt.out) hb); have n0_ := Aside0.mk (below_step (by repeat (first | (with_reducible first | exact HB.out | apply below_alloc | apply pw_below_drewN | apply below_drew1 | refine below_set ?_ GEgq.out | refine below_set ?_ GEgt.out) | exact HB.out)) hb); clear BKgq; have BKgq := m0_; clear m0_; clear BKgt; have BKgt := m1_; clear m1_; clear HB; have HB := n0_; clear n0_ hb; clear hczgq0 hfzgq0 hczgq1 hfzgq1 hczgq2 hfzgq2; clear hczgt0 hfzgt0; have hczgq0 : w4.cell? ⟨gq, 0, none⟩ = some (.string s0) := (blk_cell BKgq.out 0).trans rfl; have hfzgq0 := blk_frozen BKgq.out 0; have hczgq1 : w4.cell? ⟨gq, 1, none⟩ = some (.int .i64 b0) := (blk_cell BKgq.out 1).trans rfl; have hfzgq1 := blk_frozen BKgq.out 1; have hczgq2 : w4.cell? ⟨gq, 2, none⟩ = some (.slice A0 l0.length c0) := (blk_cell BKgq.out 2).trans rfl; have hfzgq2 := blk_frozen BKgq.out 2) | ((with_reducible refine gate_callee (f := 29) rfl ?_); (try (refine gate_guard (by rfl) ?_; dsimp only)); refine goesL_ (some 33) rfl rfl Tryd.func29 (by kernel_rfl) rfl #[.agg #[.string s0, .int .i64 b0, .slice A0 l0.length c0]] rfl (by (try simp only [List.map_toArray, List.map_cons, List.map_nil]); first | done | rfl | (simp only [List.length_drop, List.length_take]; rfl)) ?_; (with_reducible refine (prepaid_Check.calls 3000 s0 b0 A0 c0 l0 _ _ (Kd.C_below HR0.out HB.out) HC0.out CK.out).mono ?_); rintro e w5 ⟨rfl, hb⟩; refine ⟨_, rfl, ?_⟩; have m0_ := Aside0.mk (blk_below (g := gq) (o := .cells #[.string s0, .int .i64 b0, .slice A0 l0.length c0] 31 (0, 0)) (by (with_reducible repeat (first | refine blk_drewN ?_ _ | refine blk_drew ?_ | refine blk_alloc ?_ _)); exact BKgq.out) hb); have m1_ := Aside0.mk (blk_below (g := gt) (o := .cells #[.slice At tl.length ct] 24 (0, 0)) (by (with_reducible repeat (first | refine blk_drewN ?_ _ | refine blk_drew ?_ | refine blk_alloc ?_ _)); exact BKgt.out) hb); have n0_ := Aside0.mk (below_step (by repeat (first | (with_reducible first | exact HB.out | apply below_alloc | apply pw_below_drewN | apply below_drew1 | refine below_set ?_ GEgq.out | refine below_set ?_ GEgt.out) | exact HB.out)) hb); clear BKgq; have BKgq := m0_; clear m0_; clear BKgt; have BKgt := m1_; clear m1_; clear HB; have HB := n0_; clear n0_ hb; clear hczgq0 hfzgq0 hczgq1 hfzgq1 hczgq2 hfzgq2))
     go_ret
     exact ⟨rfl, by repeat (first | (with_reducible first | exact HB.out | apply below_alloc | apply pw_below_drewN | apply below_drew1 | refine below_set ?_ GEgq.out | refine below_set ?_ GEgt.out) | exact HB.out)⟩

theorem cons_calls (s0 : ByteArray) (b0 : Int) (A0 : Option Addr) (c0 : Nat) (l0 : List S54) (At : Option Addr) (ct : Nat) (tl : List S70) (Ap : Option Addr) (cp : Nat) (ops : List S54) (w : World) (hr : Kd.C k54 w A0 l0.length l0) (hc : l0.length ≤ c0) (ht : Kd.C k70 w At tl.length tl) (htc : tl.length ≤ ct) (ho : Kd.C k54 w Ap ops.length ops) (hoc : ops.length ≤ cp) (hw : opsOk ops = true) :
  Calls Tryd.prog 9 #[.agg #[.string s0, .int .i64 b0, .slice A0 l0.length c0], .agg #[.slice At tl.length ct], .slice Ap ops.length cp] w fun e w' => e = .returned (.bool true) ∧ Below w.heap.size w w' := by
 by_cases h : ((l0.length ≤ 1100 ∧ s0.size ≤ 100 ∧ tl.length ≤ 100) ∧ ¬ 100 < (l0.length : Int) ∧ ¬ 60 < (ops.length : Int)) ∧ Acc s0 b0 l0
 ·exact cons_main s0 b0 A0 c0 l0 At ct tl Ap cp ops w hr hc ht htc ho hoc hw h.1.1 h.1.2.1 h.1.2.2 h.2
 ·exact cons_early s0 b0 A0 c0 l0 At ct tl Ap cp ops w hr hc ht htc ho hoc hw (fun h1 h2 => h ⟨h1, h2⟩)
end Go.Proofs.YtldpacphackdjaaDoor.Print
