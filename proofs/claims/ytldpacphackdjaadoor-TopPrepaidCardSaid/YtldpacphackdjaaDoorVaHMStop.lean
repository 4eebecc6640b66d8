/- That meter.Stop at the one meter hands back no meter and the last record, where nothing changes since it was last cut. Conditions: those of its Lean function. -/
import Derived.Test.YtldpacphackdjaaDoorVa6
namespace Go.Proofs.YtldpacphackdjaaDoor.Print
open Go.RowKit Go.Proofs.YtldpacphackdjaaDoorW.PrintWords Go.Proofs.YtldpacphackdjaaDoorW.PrintLast Go.Proofs.YtldpacphackdjaaDoorW.PrintMore
set_option linter.unusedVariables false
set_option linter.unusedSimpArgs false
theorem ref_hf {w : World} {gr : Nat} {since : Int} (b : w.heap[gr]? = some (.cells #[.int .i64 1] 3 (0, 0))) : ∀ W, Below w.heap.size w W → Calls Tryd.prog 49 (#[.agg (mtr since)] ++ #[.pointer (some ⟨gr, 0, none⟩)]) W fun e w' => e = .returned (.bool true) ∧ Below W.heap.size W w' :=
  fun W hW => ref_mtr gr since W ((blk_cell (blk_below b hW) 0).trans rfl)
def meter_Stop.T20 : Bool × List (List Nat × List Nat) := (true, [([], []), ([], []), ([1], [1]), ([2], [2]), ([3], [3]), ([0, 0], [0]), ([4, 5, 0, 1, 2, 3, 4, 5], [4]), ([6, 0, 1, 2, 3, 4, 5, 6], [])])
def meter_Stop.B20 : List Nat := [0, 0, 2, 6, 14, 1, 63, 127]
theorem meter_Stop.tab20 : rtab .any (opsOf Tryd.f17 20) = meter_Stop.T20 := by kernel_rfl
theorem meter_Stop.bits20 : waitsOk meter_Stop.T20.2 meter_Stop.B20 = true := by kernel_rfl

set_option maxHeartbeats 4000000 in
set_option maxRecDepth 100000 in
theorem stop_none (ad : Addr) (c : Nat) (A1 : Option Addr) (c1 : Nat) (lb : List S70) (since now : Int) (recs : List S98) (w : World) (hrec : recs = []) (hc : 1 ≤ c) (hsn : 0 ≤ since ∧ since ≤ 1099511627776) (hnw : 0 ≤ now ∧ now ≤ 1099511627776) (hle : since ≤ now) (hlt : ¬ since < now) (hq : Kd.C k38 w (some ad) 1 [Mt since]) (hr : Kd.C k70 w A1 lb.length lb) (hl : lb.length ≤ c1) (hlb : lb.length ≤ 1000 ∧ 0 < lb.length) (hck : tariff_Check.f 100 lb = some 0) (hno : noChg lb since now) :
    Calls Tryd.prog 17 #[.slice (some ad) 1 c, .agg #[.slice A1 lb.length c1], .int .i64 1, .int .i64 now] w fun e w' => ∃ v1 v2 : Value, e = .returned (.tuple #[v1, v2, .int .i64 0]) ∧ Kd.R k38 38 w' w.heap.size (fun _ => True) v1 [] ∧ Kd.R k98 98 w' w.heap.size (fun _ => True) v2 recs ∧ Below w.heap.size w w' := by
  have hu95 := Tryd.underlying95
  have hu24 := Tryd.underlying24
  have hu38 := Tryd.underlying38
  obtain ⟨q0, q1, q2, q3, q4⟩ := mtr_at hq
  have Q0 := Aside0.mk q0
  have Q1 := Aside0.mk q1
  have Q2 := Aside0.mk q2
  have Q3 := Aside0.mk q3
  have Q4 := Aside0.mk q4
  have hd0 : decide (since < now) = false := decide_eq_false hlt
  have RCS := Aside0.mk hrec
  have HC := Aside0.mk hc
  have SN := Aside0.mk hsn
  have NW := Aside0.mk hnw
  have LE := Aside0.mk hle
  have HQ := Aside0.mk hq
  have HR := Aside0.mk hr
  have HL := Aside0.mk hl
  have LB := Aside0.mk hlb
  have CK := Aside0.mk hck
  have NO := Aside0.mk hno
  skip
  have HB := Aside0.mk (Below.refl w.heap.size w)
  clear q0 q1 q2 q3 q4 hrec hc hsn hnw hle hlt hq hr hl hlb hck hno
  go_enter Tryd.func17, Tryd.ntmps17
  go_wp2_with (first | ((with_reducible refine gate_dst (N := 5) rfl ?_); refine box_event ?hg (N := 5) ?hd (cs := #[.slice A1 lb.length c1]) (t := 24) ?hr ?_; (case hd => rfl); (case hg => rfl); (case hr => first | (go_simp; done) | (go_simp; rfl)); intro gt hg w1 hbox hb; have n0_ := Aside0.mk (below_step (by repeat (first | (with_reducible first | exact HB.out | apply below_alloc | apply pw_below_drewN | apply below_drew1) | exact HB.out)) hb); have BKgt := Aside0.mk hbox; have GEgt := Aside0.mk ((by rw [hg]; exact (below_size (by repeat (first | (with_reducible first | exact HB.out | apply below_alloc | apply pw_below_drewN | apply below_drew1) | exact HB.out)))) : w.heap.size ≤ gt); clear HB; have HB := n0_; clear n0_ hb hbox hg) | ((with_reducible refine gate_dst (N := 6) rfl ?_); refine box_event ?hg (N := 6) ?hd (cs := #[.int .i64 1]) (t := 3) ?hr ?_; (case hd => rfl); (case hg => rfl); (case hr => first | (go_simp; done) | (go_simp; rfl)); intro gr hg w2 hbox hb; have NEgt_gr := Aside0.mk (ne_of_old (g := gt) (g' := gr) (o := .cells #[.slice A1 lb.length c1] 24 (0, 0)) (by (with_reducible repeat (first | refine blk_drewN ?_ _ | refine blk_drew ?_ | refine blk_alloc ?_ _)); exact BKgt.out) (by rw [hg])); have m0_ := Aside0.mk (blk_below (g := gt) (o := .cells #[.slice A1 lb.length c1] 24 (0, 0)) (by (with_reducible repeat (first | refine blk_drewN ?_ _ | refine blk_drew ?_ | refine blk_alloc ?_ _)); exact BKgt.out) hb); have n0_ := Aside0.mk (below_step (by repeat (first | (with_reducible first | exact HB.out | apply below_alloc | apply pw_below_drewN | apply below_drew1 | refine below_set ?_ GEgt.out) | exact HB.out)) hb); have BKgr := Aside0.mk hbox; have GEgr := Aside0.mk ((by rw [hg]; exact (below_size (by repeat (first | (with_reducible first | exact HB.out | apply below_alloc | apply pw_below_drewN | apply below_drew1 | refine below_set ?_ GEgt.out) | exact HB.out)))) : w.heap.size ≤ gr); clear BKgt; have BKgt := m0_; clear m0_; clear HB; have HB := n0_; clear n0_ hb hbox hg; have hczgr0 : w2.cell? ⟨gr, 0, none⟩ = some (.int .i64 1) := (blk_cell BKgr.out 0).trans rfl; have hfzgr0 := blk_frozen BKgr.out 0) | ((with_reducible refine gate_callee (f := 50) rfl ?_); refine goesL_ (some 18) rfl rfl Tryd.func50 (by kernel_rfl) rfl #[.slice (some ⟨w2.heap.size, 0, none⟩) 1 1] rfl (by (try simp only [List.map_toArray, List.map_cons, List.map_nil]); first | done | rfl | (simp only [List.length_drop, List.length_take]; rfl)) ?_; (with_reducible refine (inTime_one 1 w2 (by omega) (by omega)).mono ?_); rintro e w3 ⟨rfl, hb⟩; refine ⟨_, rfl, ?_⟩; have m0_ := Aside0.mk (blk_below (g := gt) (o := .cells #[.slice A1 lb.length c1] 24 (0, 0)) (by (with_reducible repeat (first | refine blk_drewN ?_ _ | refine blk_drew ?_ | refine blk_alloc ?_ _)); exact BKgt.out) hb); have m1_ := Aside0.mk (blk_below (g := gr) (o := .cells #[.int .i64 1] 3 (0, 0)) (by (with_reducible repeat (first | refine blk_drewN ?_ _ | refine blk_drew ?_ | refine blk_alloc ?_ _)); exact BKgr.out) hb); have n0_ := Aside0.mk (below_step (by repeat (first | (with_reducible first | exact HB.out | apply below_alloc | apply pw_below_drewN | apply below_drew1 | refine below_set ?_ GEgt.out | refine below_set ?_ GEgr.out) | exact HB.out)) hb); clear BKgt; have BKgt := m0_; clear m0_; clear BKgr; have BKgr := m1_; clear m1_; clear HB; have HB := n0_; clear n0_ hb; clear hczgr0 hfzgr0; have hczgt0 : w3.cell? ⟨gt, 0, none⟩ = some (.slice A1 lb.length c1) := (blk_cell BKgt.out 0).trans rfl; have hfzgt0 := blk_frozen BKgt.out 0) | ((with_reducible refine gate_callee (f := 45) rfl ?_); refine goesL_ (some 25) rfl rfl Tryd.func45 (by kernel_rfl) rfl #[.slice (some ad) 1 c, .agg #[.slice A1 lb.length c1], .int .i64 now, .func (.func 49) #[] #[.pointer (some ⟨gr, 0, none⟩)]] rfl (by (try simp only [List.map_toArray, List.map_cons, List.map_nil]); first | done | rfl | (simp only [List.length_drop, List.length_take]; rfl)) ?_; (with_reducible refine (begin_ref ad c gr A1 c1 lb since now _ SN.out NW.out LE.out (Kd.C_below HQ.out HB.out) (Kd.C_below HR.out HB.out) HL.out CK.out BKgr.out).mono ?_); rintro e w4 ⟨gc, rfl, hgc, hbk, hb⟩; refine ⟨_, rfl, ?_⟩; have m0_ := Aside0.mk (blk_below (g := gt) (o := .cells #[.slice A1 lb.length c1] 24 (0, 0)) (by (with_reducible repeat (first | refine blk_drewN ?_ _ | refine blk_drew ?_ | refine blk_alloc ?_ _)); exact BKgt.out) hb); have m1_ := Aside0.mk (blk_below (g := gr) (o := .cells #[.int .i64 1] 3 (0, 0)) (by (with_reducible repeat (first | refine blk_drewN ?_ _ | refine blk_drew ?_ | refine blk_alloc ?_ _)); exact BKgr.out) hb); have n0_ := Aside0.mk (below_step (by repeat (first | (with_reducible first | exact HB.out | apply below_alloc | apply pw_below_drewN | apply below_drew1 | refine below_set ?_ GEgt.out | refine below_set ?_ GEgr.out) | exact HB.out)) hb); have NEgt_gc := Aside0.mk (show gt ≠ gc from by have e1_ := blk_lt BKgt.out; have e2_ := hgc; omega); have NEgr_gc := Aside0.mk (show gr ≠ gc from by have e1_ := blk_lt BKgr.out; have e2_ := hgc; omega); have GEgc := Aside0.mk (Nat.le_trans (below_size HB.out) hgc); have BKgc := Aside0.mk hbk; clear BKgt; have BKgt := m0_; clear m0_; clear BKgr; have BKgr := m1_; clear m1_; clear HB; have HB := n0_; clear n0_ hb; clear hgc hbk; clear hczgt0 hfzgt0) | ((with_reducible refine gate_callee (f := 42) rfl ?_); refine goesL_ (some 33) rfl rfl Tryd.func42 (by kernel_rfl) rfl #[.slice (some ad) 1 c, .func (.func 49) #[] #[.pointer (some ⟨gr, 0, none⟩)]] rfl (by (try simp only [List.map_toArray, List.map_cons, List.map_nil]); first | done | rfl | (simp only [List.length_drop, List.length_take]; rfl)) ?_; (with_reducible refine (contains_ref ad gr since c _ ((HB.out.cell (World.block_lt_of_cell? w _ Q0.out)).trans Q0.out) ((HB.out.cell (World.block_lt_of_cell? w _ Q1.out)).trans Q1.out) ((HB.out.cell (World.block_lt_of_cell? w _ Q2.out)).trans Q2.out) ((HB.out.cell (World.block_lt_of_cell? w _ Q3.out)).trans Q3.out) ((HB.out.cell (World.block_lt_of_cell? w _ Q4.out)).trans Q4.out) (ref_hf BKgr.out)).mono ?_); rintro e w5 ⟨rfl, hb⟩; refine ⟨_, rfl, ?_⟩; have m0_ := Aside0.mk (blk_below (g := gt) (o := .cells #[.slice A1 lb.length c1] 24 (0, 0)) (by (with_reducible repeat (first | refine blk_drewN ?_ _ | refine blk_drew ?_ | refine blk_alloc ?_ _)); exact BKgt.out) hb); have m1_ := Aside0.mk (blk_below (g := gr) (o := .cells #[.int .i64 1] 3 (0, 0)) (by (with_reducible repeat (first | refine blk_drewN ?_ _ | refine blk_drew ?_ | refine blk_alloc ?_ _)); exact BKgr.out) hb); have m2_ := Aside0.mk (blk_below (g := gc) (o := .cells #[.slice A1 lb.length c1, .slice none 0 0] 95 (0, 0)) (by (with_reducible repeat (first | refine blk_drewN ?_ _ | refine blk_drew ?_ | refine blk_alloc ?_ _)); exact BKgc.out) hb); have n0_ := Aside0.mk (below_step (by repeat (first | (with_reducible first | exact HB.out | apply below_alloc | apply pw_below_drewN | apply below_drew1 | refine below_set ?_ GEgt.out | refine below_set ?_ GEgr.out | refine below_set ?_ GEgc.out) | exact HB.out)) hb); clear BKgt; have BKgt := m0_; clear m0_; clear BKgr; have BKgr := m1_; clear m1_; clear BKgc; have BKgc := m2_; clear m2_; clear HB; have HB := n0_; clear n0_ hb))
  go_loopg [8, 37] 1 (fun kx s8 s37 wr => ∃ i : Nat, s8 = .slice none 0 0 ∧ s37 = .int .i64 i ∧ i ≤ 1 ∧ 1 - i ≤ kx ∧ Aside0 (i = 0 → wr = w5) ∧ Aside0 (i = 1 → ∃ v1 : Value, wr.heap[gc]? = some (.cells #[.slice A1 lb.length c1, v1] 95 (0, 0)) ∧ Kd.R k98 98 wr w.heap.size (fun _ => True) v1 recs ∧ Below w.heap.size w wr))
  case atStart => exact ⟨0, rfl, rfl, by omega, by omega, ⟨fun _ => rfl⟩, ⟨fun h => absurd h (by omega)⟩⟩
  case round =>
    obtain ⟨i, rfl, rfl, hi, hk, P0, P1⟩ := hrel
    by_cases h0 : i = 0
    · subst h0
      obtain rfl := P0.out rfl
      clear P0 P1
      have k0 := ((HB.out.cell (World.block_lt_of_cell? w _ Q0.out)).trans Q0.out)
      have k1 := ((HB.out.cell (World.block_lt_of_cell? w _ Q1.out)).trans Q1.out)
      have k2 := ((HB.out.cell (World.block_lt_of_cell? w _ Q2.out)).trans Q2.out)
      have k3 := ((HB.out.cell (World.block_lt_of_cell? w _ Q3.out)).trans Q3.out)
      have k4 := ((HB.out.cell (World.block_lt_of_cell? w _ Q4.out)).trans Q4.out)
      have NM := Aside0.mk (show gc ≠ wr.heap.size from by have := blk_lt BKgc.out; omega)
      have rm_ := fun W h => ref_mtr gr since W h
      unfold mtr at rm_
      have RM := Aside0.mk rm_
      clear rm_
      go_upto_region 12 with fail
      clear k0 k1 k2 k3 k4
      have z0 := blk_cell (blk_new wr (.cells #[.int .i64 1, .int .i64 1, .int .i64 0, .string one1, .int .i64 since] 38)) 0; have z1 := blk_cell (blk_new wr (.cells #[.int .i64 1, .int .i64 1, .int .i64 0, .string one1, .int .i64 since] 38)) 1; have z2 := blk_cell (blk_new wr (.cells #[.int .i64 1, .int .i64 1, .int .i64 0, .string one1, .int .i64 since] 38)) 2; have z3 := blk_cell (blk_new wr (.cells #[.int .i64 1, .int .i64 1, .int .i64 0, .string one1, .int .i64 since] 38)) 3; have z4 := blk_cell (blk_new wr (.cells #[.int .i64 1, .int .i64 1, .int .i64 0, .string one1, .int .i64 since] 38)) 4
      go_wp2_with (first | (go_at_call 49; refine (RM.out _ ((blk_cell (blk_alloc BKgr.out _) 0).trans rfl)).mono ?_; rintro e w7 ⟨rfl, hb⟩; have C7 := Aside0.mk (blk_below (blk_alloc BKgc.out (.cells #[.int .i64 1, .int .i64 1, .int .i64 0, .string one1, .int .i64 since] 38)) hb); have M7 := Aside0.mk (show w7.heap[wr.heap.size]? = some (.cells (mcells since #[]) 38 (0, 0)) from by rw [mcells_nil]; exact blk_below (blk_new wr (.cells #[.int .i64 1, .int .i64 1, .int .i64 0, .string one1, .int .i64 since] 38)) hb); have B7 := Aside0.mk (below_step (below_alloc HB.out (.cells #[.int .i64 1, .int .i64 1, .int .i64 0, .string one1, .int .i64 since] 38)) hb); clear hb) | (go_at_call 47; refine (advance_none gc wr.heap.size #[] A1 c1 lb (.slice none 0 0) since now w7 NM.out C7.out M7.out (Kd.C_below HR.out B7.out) HL.out LB.out NO.out).mono ?_; rintro e w8 ⟨⟨x_, rfl⟩, hb⟩; have C8 := Aside0.mk (blk_below C7.out hb); have M8 := Aside0.mk (blk_below M7.out hb); have B8 := Aside0.mk (below_step B7.out hb); have hcz8 := mcell4 M8.out; clear hb) | (go_at_call 48; refine (full_calls gc A1 lb.length c1 _ 0 0 none rfl _ (by omega) C8.out).mono ?_; rintro e wA ⟨rfl, hb⟩; have CA := Aside0.mk (blk_below C8.out hb); have RA := Aside0.mk (Kd.R_nil k98 98 wA w.heap.size (fun _ => True)); have BA := Aside0.mk (below_step B8.out hb); clear hb))
      go_roundg 0
      case measure => omega
      case rel => exact ⟨1, rfl, by first | rfl | (simp; done), by omega, by omega, ⟨fun h => by omega⟩, ⟨fun _ => ⟨_, CA.out, (by rw [RCS.out]; exact RA.out), BA.out⟩⟩⟩
    · obtain rfl : i = 1 := by omega
      obtain ⟨v1, q1, q3, q4⟩ := P1.out rfl
      obtain ⟨Ao, co, eo⟩ := Kd.R_slice q3
      subst eo
      have FC := Aside0.mk q1
      have FR := Aside0.mk q3
      have FB := Aside0.mk q4
      clear q1 q3 q4 P0 P1
      go_wp2
      have T0 := Aside0.mk ((blk_cell FC.out 1).trans rfl : wr.cell? ⟨gc, 1, none⟩ = some (.slice Ao recs.length co))
      have BD := Aside0.mk (below_drew (Below.refl wr.heap.size wr))
      refine start_ (n := 8) (S := fun w' => w'.cell? ⟨gc, 1, none⟩ = some (.slice Ao recs.length co)) (ds := []) #[false, false, false, false, false, false, false, false] (by kernel_rfl) rfl rfl (T0.out) (fun hHeld => ?_)
      generalize wr.drew = w8 at BD hHeld ⊢
      refine with_tabW meter_Stop.tab20 meter_Stop.bits20 (fun HT_ HW_ => ?_)
      refine pure_ (i := 0) (N := some 62) (v := ?_) (a' := ?_) #[true, false, false, false, false, false, false, false] rfl rfl (any_of HT_.out (by kernel_rfl)) (fun _ _ _ h => h) (Or.inl ⟨by rfl, ?_⟩) ?_ ?_
      rotate_left
      · intro w'
        go_simp
        with_reducible rfl
      rotate_left
      · simp only [Act.put, List.setIfInBounds_toArray, List.set_cons_zero, List.set_cons_succ, i64_w, i32_w]
        rfl
      refine pure_ (i := 1) (N := some 63) (v := ?_) (a' := ?_) #[true, true, false, false, false, false, false, false] rfl rfl (any_of HT_.out (by kernel_rfl)) (fun _ _ _ h => h) (Or.inl ⟨by rfl, ?_⟩) ?_ ?_
      rotate_left
      · intro w'
        go_simp
        with_reducible rfl
      rotate_left
      · simp only [Act.put, List.setIfInBounds_toArray, List.set_cons_zero, List.set_cons_succ, i64_w, i32_w]
        rfl
      refine pure_ (i := 2) (N := some 64) (v := ?_) (a' := ?_) #[true, true, true, false, false, false, false, false] rfl rfl (any_of HT_.out (by kernel_rfl)) (fun _ _ _ h => h) (Or.inl ⟨by rfl, ?_⟩) ?_ ?_
      rotate_left
      · intro w'
        go_simp
        with_reducible rfl
      rotate_left
      · simp only [Act.put, List.setIfInBounds_toArray, List.set_cons_zero, List.set_cons_succ, i64_w, i32_w]
        rfl
      refine pure_ (i := 3) (N := some 65) (v := ?_) (a' := ?_) #[true, true, true, true, false, false, false, false] rfl rfl (any_of HT_.out (by kernel_rfl)) (fun _ _ _ h => h) (Or.inl ⟨by rfl, ?_⟩) ?_ ?_
      rotate_left
      · intro w'
        go_simp
        with_reducible rfl
      rotate_left
      · simp only [Act.put, List.setIfInBounds_toArray, List.set_cons_zero, List.set_cons_succ, i64_w, i32_w]
        rfl
      refine pure_ (i := 5) (N := some 8) (v := ?_) (a' := ?_) #[true, true, true, true, false, true, false, false] rfl rfl (any_of HT_.out (by kernel_rfl)) (fun _ _ _ h => h) (Or.inl ⟨by rfl, ?_⟩) ?_ ?_
      rotate_left
      · intro w'
        go_simp
        with_reducible rfl
      rotate_left
      · simp only [Act.put, List.setIfInBounds_toArray, List.set_cons_zero, List.set_cons_succ, i64_w, i32_w]
        rfl
      refine take_ (i := 4) (N := some 66) (v := ?_) (a' := ?_) #[true, true, true, true, true, true, false, false] rfl rfl (take_ofW HT_.out HW_.out (by kernel_rfl)) (fun _ _ _ h => h) (Or.inl ⟨by rfl, ?_⟩) hHeld ?_ ?_
      rotate_left
      · intro w' s0
        go_simp
        with_reducible rfl
      rotate_left
      · simp only [Act.put, List.setIfInBounds_toArray, List.set_cons_zero, List.set_cons_succ, i64_w, i32_w]
        rfl
      refine pure_ (i := 6) (N := some 9) (v := ?_) (a' := ?_) #[true, true, true, true, true, true, true, false] rfl rfl (any_of HT_.out (by kernel_rfl)) (fun _ _ _ h => h) (Or.inl ⟨by rfl, ?_⟩) ?_ ?_
      rotate_left
      · intro w'
        go_simp
        with_reducible rfl
      rotate_left
      · simp only [Act.put, List.setIfInBounds_toArray, List.set_cons_zero, List.set_cons_succ, i64_w, i32_w]
        rfl
      refine pure_ (i := 7) (N := some 10) (v := ?_) (a' := ?_) #[true, true, true, true, true, true, true, true] rfl rfl (any_of HT_.out (by kernel_rfl)) (fun _ _ _ h => h) (Or.inl ⟨by rfl, ?_⟩) ?_ ?_
      rotate_left
      · intro w'
        go_simp
        with_reducible rfl
      rotate_left
      · simp only [Act.put, List.setIfInBounds_toArray, List.set_cons_zero, List.set_cons_succ, i64_w, i32_w]
        rfl
      refine done_ (done_of HT_.out (by kernel_rfl)) ?_
      
      try go_wp2
      go_ret3
      exact ⟨_, _, rfl, Kd.R_nil _ _ _ _ _, Kd.R_below FR.out BD.out, below_step FB.out BD.out⟩

set_option maxHeartbeats 4000000 in
set_option maxRecDepth 100000 in
theorem stop_cut (ad : Addr) (c : Nat) (A1 : Option Addr) (c1 : Nat) (lb : List S70) (since now rate : Int) (recs : List S98) (w : World) (hrec : recs = [⟨1, 1, 0, one1, since, now, rate, wrap64 (rate * wrap64 (now - since))⟩]) (hc : 1 ≤ c) (hsn : 0 ≤ since ∧ since ≤ 1099511627776) (hnw : 0 ≤ now ∧ now ≤ 1099511627776) (hle : since ≤ now) (hlt : since < now) (hq : Kd.C k38 w (some ad) 1 [Mt since]) (hr : Kd.C k70 w A1 lb.length lb) (hl : lb.length ≤ c1) (hlb : lb.length ≤ 1000 ∧ 0 < lb.length) (hck : tariff_Check.f 100 lb = some 0) (hno : noChg lb since now) (hre : tariff_Rate.f 100 lb since = some (rate, 0)) :
    Calls Tryd.prog 17 #[.slice (some ad) 1 c, .agg #[.slice A1 lb.length c1], .int .i64 1, .int .i64 now] w fun e w' => ∃ v1 v2 : Value, e = .returned (.tuple #[v1, v2, .int .i64 0]) ∧ Kd.R k38 38 w' w.heap.size (fun _ => True) v1 [] ∧ Kd.R k98 98 w' w.heap.size (fun _ => True) v2 recs ∧ Below w.heap.size w w' := by
  have hu95 := Tryd.underlying95
  have hu24 := Tryd.underlying24
  have hu38 := Tryd.underlying38
  obtain ⟨q0, q1, q2, q3, q4⟩ := mtr_at hq
  have Q0 := Aside0.mk q0
  have Q1 := Aside0.mk q1
  have Q2 := Aside0.mk q2
  have Q3 := Aside0.mk q3
  have Q4 := Aside0.mk q4
  have hd0 : decide (since < now) = true := decide_eq_true hlt
  have RCS := Aside0.mk hrec
  have HC := Aside0.mk hc
  have SN := Aside0.mk hsn
  have NW := Aside0.mk hnw
  have LE := Aside0.mk hle
  have HQ := Aside0.mk hq
  have HR := Aside0.mk hr
  have HL := Aside0.mk hl
  have LB := Aside0.mk hlb
  have CK := Aside0.mk hck
  have NO := Aside0.mk hno
  have RE := Aside0.mk hre
  have HB := Aside0.mk (Below.refl w.heap.size w)
  clear q0 q1 q2 q3 q4 hrec hc hsn hnw hle hlt hq hr hl hlb hck hno hre
  go_enter Tryd.func17, Tryd.ntmps17
  go_wp2_with (first | ((with_reducible refine gate_dst (N := 5) rfl ?_); refine box_event ?hg (N := 5) ?hd (cs := #[.slice A1 lb.length c1]) (t := 24) ?hr ?_; (case hd => rfl); (case hg => rfl); (case hr => first | (go_simp; done) | (go_simp; rfl)); intro gt hg w1 hbox hb; have n0_ := Aside0.mk (below_step (by repeat (first | (with_reducible first | exact HB.out | apply below_alloc | apply pw_below_drewN | apply below_drew1) | exact HB.out)) hb); have BKgt := Aside0.mk hbox; have GEgt := Aside0.mk ((by rw [hg]; exact (below_size (by repeat (first | (with_reducible first | exact HB.out | apply below_alloc | apply pw_below_drewN | apply below_drew1) | exact HB.out)))) : w.heap.size ≤ gt); clear HB; have HB := n0_; clear n0_ hb hbox hg) | ((with_reducible refine gate_dst (N := 6) rfl ?_); refine box_event ?hg (N := 6) ?hd (cs := #[.int .i64 1]) (t := 3) ?hr ?_; (case hd => rfl); (case hg => rfl); (case hr => first | (go_simp; done) | (go_simp; rfl)); intro gr hg w2 hbox hb; have NEgt_gr := Aside0.mk (ne_of_old (g := gt) (g' := gr) (o := .cells #[.slice A1 lb.length c1] 24 (0, 0)) (by (with_reducible repeat (first | refine blk_drewN ?_ _ | refine blk_drew ?_ | refine blk_alloc ?_ _)); exact BKgt.out) (by rw [hg])); have m0_ := Aside0.mk (blk_below (g := gt) (o := .cells #[.slice A1 lb.length c1] 24 (0, 0)) (by (with_reducible repeat (first | refine blk_drewN ?_ _ | refine blk_drew ?_ | refine blk_alloc ?_ _)); exact BKgt.out) hb); have n0_ := Aside0.mk (below_step (by repeat (first | (with_reducible first | exact HB.out | apply below_alloc | apply pw_below_drewN | apply below_drew1 | refine below_set ?_ GEgt.out) | exact HB.out)) hb); have BKgr := Aside0.mk hbox; have GEgr := Aside0.mk ((by rw [hg]; exact (below_size (by repeat (first | (with_reducible first | exact HB.out | apply below_alloc | apply pw_below_drewN | apply below_drew1 | refine below_set ?_ GEgt.out) | exact HB.out)))) : w.heap.size ≤ gr); clear BKgt; have BKgt := m0_; clear m0_; clear HB; have HB := n0_; clear n0_ hb hbox hg; have hczgr0 : w2.cell? ⟨gr, 0, none⟩ = some (.int .i64 1) := (blk_cell BKgr.out 0).trans rfl; have hfzgr0 := blk_frozen BKgr.out 0) | ((with_reducible refine gate_callee (f := 50) rfl ?_); refine goesL_ (some 18) rfl rfl Tryd.func50 (by kernel_rfl) rfl #[.slice (some ⟨w2.heap.size, 0, none⟩) 1 1] rfl (by (try simp only [List.map_toArray, List.map_cons, List.map_nil]); first | done | rfl | (simp only [List.length_drop, List.length_take]; rfl)) ?_; (with_reducible refine (inTime_one 1 w2 (by omega) (by omega)).mono ?_); rintro e w3 ⟨rfl, hb⟩; refine ⟨_, rfl, ?_⟩; have m0_ := Aside0.mk (blk_below (g := gt) (o := .cells #[.slice A1 lb.length c1] 24 (0, 0)) (by (with_reducible repeat (first | refine blk_drewN ?_ _ | refine blk_drew ?_ | refine blk_alloc ?_ _)); exact BKgt.out) hb); have m1_ := Aside0.mk (blk_below (g := gr) (o := .cells #[.int .i64 1] 3 (0, 0)) (by (with_reducible repeat (first | refine blk_drewN ?_ _ | refine blk_drew ?_ | refine blk_alloc ?_ _)); exact BKgr.out) hb); have n0_ := Aside0.mk (below_step (by repeat (first | (with_reducible first | exact HB.out | apply below_alloc | apply pw_below_drewN | apply below_drew1 | refine below_set ?_ GEgt.out | refine below_set ?_ GEgr.out) | exact HB.out)) hb); clear BKgt; have BKgt := m0_; clear m0_; clear BKgr; have BKgr := m1_; clear m1_; clear HB; have HB := n0_; clear n0_ hb; clear hczgr0 hfzgr0; have hczgt0 : w3.cell? ⟨gt, 0, none⟩ = some (.slice A1 lb.length c1) := (blk_cell BKgt.out 0).trans rfl; have hfzgt0 := blk_frozen BKgt.out 0) | ((with_reducible refine gate_callee (f := 45) rfl ?_); refine goesL_ (some 25) rfl rfl Tryd.func45 (by kernel_rfl) rfl #[.slice (some ad) 1 c, .agg #[.slice A1 lb.length c1], .int .i64 now, .func (.func 49) #[] #[.pointer (some ⟨gr, 0, none⟩)]] rfl (by (try simp only [List.map_toArray, List.map_cons, List.map_nil]); first | done | rfl | (simp only [List.length_drop, List.length_take]; rfl)) ?_; (with_reducible refine (begin_ref ad c gr A1 c1 lb since now _ SN.out NW.out LE.out (Kd.C_below HQ.out HB.out) (Kd.C_below HR.out HB.out) HL.out CK.out BKgr.out).mono ?_); rintro e w4 ⟨gc, rfl, hgc, hbk, hb⟩; refine ⟨_, rfl, ?_⟩; have m0_ := Aside0.mk (blk_below (g := gt) (o := .cells #[.slice A1 lb.length c1] 24 (0, 0)) (by (with_reducible repeat (first | refine blk_drewN ?_ _ | refine blk_drew ?_ | refine blk_alloc ?_ _)); exact BKgt.out) hb); have m1_ := Aside0.mk (blk_below (g := gr) (o := .cells #[.int .i64 1] 3 (0, 0)) (by (with_reducible repeat (first | refine blk_drewN ?_ _ | refine blk_drew ?_ | refine blk_alloc ?_ _)); exact BKgr.out) hb); have n0_ := Aside0.mk (below_step (by repeat (first | (with_reducible first | exact HB.out | apply below_alloc | apply pw_below_drewN | apply below_drew1 | refine below_set ?_ GEgt.out | refine below_set ?_ GEgr.out) | exact HB.out)) hb); have NEgt_gc := Aside0.mk (show gt ≠ gc from by have e1_ := blk_lt BKgt.out; have e2_ := hgc; omega); have NEgr_gc := Aside0.mk (show gr ≠ gc from by have e1_ := blk_lt BKgr.out; have e2_ := hgc; omega); have GEgc := Aside0.mk (Nat.le_trans (below_size HB.out) hgc); have BKgc := Aside0.mk hbk; clear BKgt; have BKgt := m0_; clear m0_; clear BKgr; have BKgr := m1_; clear m1_; clear HB; have HB := n0_; clear n0_ hb; clear hgc hbk; clear hczgt0 hfzgt0) | ((with_reducible refine gate_callee (f := 42) rfl ?_); refine goesL_ (some 33) rfl rfl Tryd.func42 (by kernel_rfl) rfl #[.slice (some ad) 1 c, .func (.func 49) #[] #[.pointer (some ⟨gr, 0, none⟩)]] rfl (by (try simp only [List.map_toArray, List.map_cons, List.map_nil]); first | done | rfl | (simp only [List.length_drop, List.length_take]; rfl)) ?_; (with_reducible refine (contains_ref ad gr since c _ ((HB.out.cell (World.block_lt_of_cell? w _ Q0.out)).trans Q0.out) ((HB.out.cell (World.block_lt_of_cell? w _ Q1.out)).trans Q1.out) ((HB.out.cell (World.block_lt_of_cell? w _ Q2.out)).trans Q2.out) ((HB.out.cell (World.block_lt_of_cell? w _ Q3.out)).trans Q3.out) ((HB.out.cell (World.block_lt_of_cell? w _ Q4.out)).trans Q4.out) (ref_hf BKgr.out)).mono ?_); rintro e w5 ⟨rfl, hb⟩; refine ⟨_, rfl, ?_⟩; have m0_ := Aside0.mk (blk_below (g := gt) (o := .cells #[.slice A1 lb.length c1] 24 (0, 0)) (by (with_reducible repeat (first | refine blk_drewN ?_ _ | refine blk_drew ?_ | refine blk_alloc ?_ _)); exact BKgt.out) hb); have m1_ := Aside0.mk (blk_below (g := gr) (o := .cells #[.int .i64 1] 3 (0, 0)) (by (with_reducible repeat (first | refine blk_drewN ?_ _ | refine blk_drew ?_ | refine blk_alloc ?_ _)); exact BKgr.out) hb); have m2_ := Aside0.mk (blk_below (g := gc) (o := .cells #[.slice A1 lb.length c1, .slice none 0 0] 95 (0, 0)) (by (with_reducible repeat (first | refine blk_drewN ?_ _ | refine blk_drew ?_ | refine blk_alloc ?_ _)); exact BKgc.out) hb); have n0_ := Aside0.mk (below_step (by repeat (first | (with_reducible first | exact HB.out | apply below_alloc | apply pw_below_drewN | apply below_drew1 | refine below_set ?_ GEgt.out | refine below_set ?_ GEgr.out | refine below_set ?_ GEgc.out) | exact HB.out)) hb); clear BKgt; have BKgt := m0_; clear m0_; clear BKgr; have BKgr := m1_; clear m1_; clear BKgc; have BKgc := m2_; clear m2_; clear HB; have HB := n0_; clear n0_ hb))
  go_loopg [8, 37] 1 (fun kx s8 s37 wr => ∃ i : Nat, s8 = .slice none 0 0 ∧ s37 = .int .i64 i ∧ i ≤ 1 ∧ 1 - i ≤ kx ∧ Aside0 (i = 0 → wr = w5) ∧ Aside0 (i = 1 → ∃ v1 : Value, wr.heap[gc]? = some (.cells #[.slice A1 lb.length c1, v1] 95 (0, 0)) ∧ Kd.R k98 98 wr w.heap.size (fun _ => True) v1 recs ∧ Below w.heap.size w wr))
  case atStart => exact ⟨0, rfl, rfl, by omega, by omega, ⟨fun _ => rfl⟩, ⟨fun h => absurd h (by omega)⟩⟩
  case round =>
    obtain ⟨i, rfl, rfl, hi, hk, P0, P1⟩ := hrel
    by_cases h0 : i = 0
    · subst h0
      obtain rfl := P0.out rfl
      clear P0 P1
      have k0 := ((HB.out.cell (World.block_lt_of_cell? w _ Q0.out)).trans Q0.out)
      have k1 := ((HB.out.cell (World.block_lt_of_cell? w _ Q1.out)).trans Q1.out)
      have k2 := ((HB.out.cell (World.block_lt_of_cell? w _ Q2.out)).trans Q2.out)
      have k3 := ((HB.out.cell (World.block_lt_of_cell? w _ Q3.out)).trans Q3.out)
      have k4 := ((HB.out.cell (World.block_lt_of_cell? w _ Q4.out)).trans Q4.out)
      have NM := Aside0.mk (show gc ≠ wr.heap.size from by have := blk_lt BKgc.out; omega)
      have rm_ := fun W h => ref_mtr gr since W h
      unfold mtr at rm_
      have RM := Aside0.mk rm_
      clear rm_
      go_upto_region 12 with fail
      clear k0 k1 k2 k3 k4
      have z0 := blk_cell (blk_new wr (.cells #[.int .i64 1, .int .i64 1, .int .i64 0, .string one1, .int .i64 since] 38)) 0; have z1 := blk_cell (blk_new wr (.cells #[.int .i64 1, .int .i64 1, .int .i64 0, .string one1, .int .i64 since] 38)) 1; have z2 := blk_cell (blk_new wr (.cells #[.int .i64 1, .int .i64 1, .int .i64 0, .string one1, .int .i64 since] 38)) 2; have z3 := blk_cell (blk_new wr (.cells #[.int .i64 1, .int .i64 1, .int .i64 0, .string one1, .int .i64 since] 38)) 3; have z4 := blk_cell (blk_new wr (.cells #[.int .i64 1, .int .i64 1, .int .i64 0, .string one1, .int .i64 since] 38)) 4
      go_wp2_with (first | (go_at_call 49; refine (RM.out _ ((blk_cell (blk_alloc BKgr.out _) 0).trans rfl)).mono ?_; rintro e w7 ⟨rfl, hb⟩; have C7 := Aside0.mk (blk_below (blk_alloc BKgc.out (.cells #[.int .i64 1, .int .i64 1, .int .i64 0, .string one1, .int .i64 since] 38)) hb); have M7 := Aside0.mk (show w7.heap[wr.heap.size]? = some (.cells (mcells since #[]) 38 (0, 0)) from by rw [mcells_nil]; exact blk_below (blk_new wr (.cells #[.int .i64 1, .int .i64 1, .int .i64 0, .string one1, .int .i64 since] 38)) hb); have B7 := Aside0.mk (below_step (below_alloc HB.out (.cells #[.int .i64 1, .int .i64 1, .int .i64 0, .string one1, .int .i64 since] 38)) hb); clear hb) | (go_at_call 47; refine (advance_none gc wr.heap.size #[] A1 c1 lb (.slice none 0 0) since now w7 NM.out C7.out M7.out (Kd.C_below HR.out B7.out) HL.out LB.out NO.out).mono ?_; rintro e w8 ⟨⟨x_, rfl⟩, hb⟩; have C8 := Aside0.mk (blk_below C7.out hb); have M8 := Aside0.mk (blk_below M7.out hb); have B8 := Aside0.mk (below_step B7.out hb); have hcz8 := mcell4 M8.out; clear hb) | (go_at_call 51; refine (cut_calls gc wr.heap.size #[] A1 c1 lb since now rate w8 NM.out C8.out M8.out (Kd.C_below HR.out B8.out) HL.out RE.out).mono ?_; rintro e w9 ⟨v1, ⟨x_, rfl⟩, hc3, hm3, hr3, ho3⟩; obtain ⟨Ao, co, eo⟩ := Kd.R_slice hr3; subst eo; have C9 := Aside0.mk hc3; have R9 := Aside0.mk (Kd.R_lower hr3 (below_size B8.out)); have B9 := Aside0.mk (ho3.below B8.out GEgc.out (below_size HB.out)); clear hc3 hm3 hr3 ho3) | (go_at_call 48; refine (full_calls gc A1 lb.length c1 _ 1 co Ao rfl _ (by omega) C9.out).mono ?_; rintro e wA ⟨rfl, hb⟩; have CA := Aside0.mk (blk_below C9.out hb); have RA := Aside0.mk (Kd.R_below R9.out hb); have BA := Aside0.mk (below_step B9.out hb); clear hb))
      go_roundg 0
      case measure => omega
      case rel => exact ⟨1, rfl, by first | rfl | (simp; done), by omega, by omega, ⟨fun h => by omega⟩, ⟨fun _ => ⟨_, CA.out, (by rw [RCS.out]; exact RA.out), BA.out⟩⟩⟩
    · obtain rfl : i = 1 := by omega
      obtain ⟨v1, q1, q3, q4⟩ := P1.out rfl
      obtain ⟨Ao, co, eo⟩ := Kd.R_slice q3
      subst eo
      have FC := Aside0.mk q1
      have FR := Aside0.mk q3
      have FB := Aside0.mk q4
      clear q1 q3 q4 P0 P1
      go_wp2
      have T0 := Aside0.mk ((blk_cell FC.out 1).trans rfl : wr.cell? ⟨gc, 1, none⟩ = some (.slice Ao recs.length co))
      have BD := Aside0.mk (below_drew (Below.refl wr.heap.size wr))
      refine start_ (n := 8) (S := fun w' => w'.cell? ⟨gc, 1, none⟩ = some (.slice Ao recs.length co)) (ds := []) #[false, false, false, false, false, false, false, false] (by kernel_rfl) rfl rfl (T0.out) (fun hHeld => ?_)
      generalize wr.drew = w8 at BD hHeld ⊢
      refine with_tabW meter_Stop.tab20 meter_Stop.bits20 (fun HT_ HW_ => ?_)
      refine pure_ (i := 0) (N := some 62) (v := ?_) (a' := ?_) #[true, false, false, false, false, false, false, false] rfl rfl (any_of HT_.out (by kernel_rfl)) (fun _ _ _ h => h) (Or.inl ⟨by rfl, ?_⟩) ?_ ?_
      rotate_left
      · intro w'
        go_simp
        with_reducible rfl
      rotate_left
      · simp only [Act.put, List.setIfInBounds_toArray, List.set_cons_zero, List.set_cons_succ, i64_w, i32_w]
        rfl
      refine pure_ (i := 1) (N := some 63) (v := ?_) (a' := ?_) #[true, true, false, false, false, false, false, false] rfl rfl (any_of HT_.out (by kernel_rfl)) (fun _ _ _ h => h) (Or.inl ⟨by rfl, ?_⟩) ?_ ?_
      rotate_left
      · intro w'
        go_simp
        with_reducible rfl
      rotate_left
      · simp only [Act.put, List.setIfInBounds_toArray, List.set_cons_zero, List.set_cons_succ, i64_w, i32_w]
        rfl
      refine pure_ (i := 2) (N := some 64) (v := ?_) (a' := ?_) #[true, true, true, false, false, false, false, false] rfl rfl (any_of HT_.out (by kernel_rfl)) (fun _ _ _ h => h) (Or.inl ⟨by rfl, ?_⟩) ?_ ?_
      rotate_left
      · intro w'
        go_simp
        with_reducible rfl
      rotate_left
      · simp only [Act.put, List.setIfInBounds_toArray, List.set_cons_zero, List.set_cons_succ, i64_w, i32_w]
        rfl
      refine pure_ (i := 3) (N := some 65) (v := ?_) (a' := ?_) #[true, true, true, true, false, false, false, false] rfl rfl (any_of HT_.out (by kernel_rfl)) (fun _ _ _ h => h) (Or.inl ⟨by rfl, ?_⟩) ?_ ?_
      rotate_left
      · intro w'
        go_simp
        with_reducible rfl
      rotate_left
      · simp only [Act.put, List.setIfInBounds_toArray, List.set_cons_zero, List.set_cons_succ, i64_w, i32_w]
        rfl
      refine pure_ (i := 5) (N := some 8) (v := ?_) (a' := ?_) #[true, true, true, true, false, true, false, false] rfl rfl (any_of HT_.out (by kernel_rfl)) (fun _ _ _ h => h) (Or.inl ⟨by rfl, ?_⟩) ?_ ?_
      rotate_left
      · intro w'
        go_simp
        with_reducible rfl
      rotate_left
      · simp only [Act.put, List.setIfInBounds_toArray, List.set_cons_zero, List.set_cons_succ, i64_w, i32_w]
        rfl
      refine take_ (i := 4) (N := some 66) (v := ?_) (a' := ?_) #[true, true, true, true, true, true, false, false] rfl rfl (take_ofW HT_.out HW_.out (by kernel_rfl)) (fun _ _ _ h => h) (Or.inl ⟨by rfl, ?_⟩) hHeld ?_ ?_
      rotate_left
      · intro w' s0
        go_simp
        with_reducible rfl
      rotate_left
      · simp only [Act.put, List.setIfInBounds_toArray, List.set_cons_zero, List.set_cons_succ, i64_w, i32_w]
        rfl
      refine pure_ (i := 6) (N := some 9) (v := ?_) (a' := ?_) #[true, true, true, true, true, true, true, false] rfl rfl (any_of HT_.out (by kernel_rfl)) (fun _ _ _ h => h) (Or.inl ⟨by rfl, ?_⟩) ?_ ?_
      rotate_left
      · intro w'
        go_simp
        with_reducible rfl
      rotate_left
      · simp only [Act.put, List.setIfInBounds_toArray, List.set_cons_zero, List.set_cons_succ, i64_w, i32_w]
        rfl
      refine pure_ (i := 7) (N := some 10) (v := ?_) (a' := ?_) #[true, true, true, true, true, true, true, true] rfl rfl (any_of HT_.out (by kernel_rfl)) (fun _ _ _ h => h) (Or.inl ⟨by rfl, ?_⟩) ?_ ?_
      rotate_left
      · intro w'
        go_simp
        with_reducible rfl
      rotate_left
      · simp only [Act.put, List.setIfInBounds_toArray, List.set_cons_zero, List.set_cons_succ, i64_w, i32_w]
        rfl
      refine done_ (done_of HT_.out (by kernel_rfl)) ?_
      
      try go_wp2
      go_ret3
      exact ⟨_, _, rfl, Kd.R_nil _ _ _ _ _, Kd.R_below FR.out BD.out, below_step FB.out BD.out⟩

open Classical in
noncomputable def meter_Stop.f (l : List S38) (lb : List S70) (ref now : Int) : Option (List S38 × List S98 × Int) :=
  if MOK l lb now ∧ ref = 1 ∧ noChg lb (sinceOf l) now ∧ ∃ rate, tariff_Rate.f 100 lb (sinceOf l) = some (rate, 0) then some ([], if sinceOf l < now then [recOf lb (sinceOf l) now] else [], 0) else none
theorem meter_Stop.calls (A : Option Addr) (c : Nat) (l : List S38) (A1 : Option Addr) (c1 : Nat) (lb : List S70) (ref now : Int) (r1 : List S38) (r2 : List S98) (r3 : Int) (w : World) (hr : Kd.C k38 w A l.length l) (hc : l.length ≤ c) (hr1 : Kd.C k70 w A1 lb.length lb) (hc1 : lb.length ≤ c1) (h : meter_Stop.f l lb ref now = some (r1, r2, r3)) :
    Calls Tryd.prog 17 #[.slice A l.length c, .agg #[.slice A1 lb.length c1], .int .i64 ref, .int .i64 now] w fun e w' => ∃ v1 v2 : Value, e = .returned (.tuple #[v1, v2, .int .i64 r3]) ∧ Kd.R k38 38 w' w.heap.size (fun _ => True) v1 r1 ∧ Kd.R k98 98 w' w.heap.size (fun _ => True) v2 r2 ∧ Below w.heap.size w w' := by
  unfold meter_Stop.f at h
  split at h
  case isFalse => cases h
  case isTrue hq =>
    obtain ⟨⟨hl, hck, hlb, h0, h1, h2⟩, rfl, hno, rate, hre⟩ := hq
    generalize sinceOf l = since at h hl h0 h1 hno hre
    subst hl
    obtain ⟨ad, hA, _⟩ := hr.2.2 (by simp)
    subst hA
    simp only [Option.some.injEq, Prod.mk.injEq] at h
    obtain ⟨rfl, rfl, rfl⟩ := h
    by_cases hlt : since < now
    · exact stop_cut ad c A1 c1 lb since now rate _ w (by rw [if_pos hlt]; unfold recOf; rw [rateOf_is hre]) hc ⟨h0, by omega⟩ ⟨by omega, h2⟩ h1 hlt hr hr1 hc1 hlb hck hno hre
    · exact stop_none ad c A1 c1 lb since now _ w (by rw [if_neg hlt]) hc ⟨h0, by omega⟩ ⟨by omega, h2⟩ h1 hlt hr hr1 hc1 hlb hck hno
end Go.Proofs.YtldpacphackdjaaDoor.Print
