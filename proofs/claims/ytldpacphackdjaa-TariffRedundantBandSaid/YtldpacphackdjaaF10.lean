/- That the call of function 10 (crossbarlaw26_TariffRedundantBand) answers what the Lean function of the same name answers, at every input at which that one answers. (Written by a program of the session, which drives the kit's printer.) -/
import Derived.Test.YtldpacphackdjaaK0
import Derived.Test.YtldpacphackdjaaFT
import Derived.Test.YtldpacphackdjaaFP
import Derived.Test.YtldpacphackdjaaF20
namespace Go.Proofs.Ytldpacphackdjaa.Print
open Go.RowKit Go.Proofs.YtldpacphackdjaaW.PrintWords Go.Proofs.YtldpacphackdjaaW.PrintLast Go.Proofs.YtldpacphackdjaaW.PrintMore
attribute [local go_sem] max2_int min2_int max_two min_two max_three min_three max_four min_four   -- for this text's walks alone
set_option linter.unusedVariables false
set_option linter.unusedSimpArgs false

/-! ### crossbarlaw26_TariffRedundantBand: function 10 -/
def crossbarlaw26_TariffRedundantBand.j0 : Nat → Int → Int → Int → Int → Bool → List (S42) → Option (Bool)
 | 0, _, _, _, _, _, _ => none
 | k + 1, x1, x2, x3, x4, x42, x282000 => if x42 = true then (some true) else (if 0 ≤ (wrap64 (x1 + 1)) then (if (wrap64 (x1 + 1)) ≤ (x282000.length : Int) then ((some (x282000.take ((wrap64 (x1 + 1)) : Int).toNat : List (S42))).bind fun y285 => (if ([] : List (S42)).length + y285.length < 8796093022208 then ((some (([] : List (S42)) ++ y285 : List (S42))).bind fun y289 => (if 0 ≤ x1 then (if x1 < (x282000.length : Int) then (if y289.length < 8796093022208 then ((some (y289 ++ [(⟨x2, (rd_T42 x282000 x1).f1⟩ : S42)] : List (S42))).bind fun y294 => ((some (x282000.drop ((wrap64 (x1 + 1)) : Int).toNat : List (S42))).bind fun y297 => (if y294.length + y297.length < 8796093022208 then ((some (y294 ++ y297 : List (S42))).bind fun y301 => ((tariff_Check.f k y301).bind fun t304 => (if t304 = 0 then ((tariff_Price.f k x282000 x3 x4).bind fun bt305 => ((tariff_Price.f k y301 x3 x4).bind fun bt307 => ((tariff_Change.f k x282000 x3).bind fun bt309 => ((tariff_Change.f k y301 x3).bind fun bt312 => (if bt305.1 = bt307.1 then (if bt305.2 = bt307.2 then (if bt309.1 = bt312.1 then (if (bt309.2.1 == bt312.2.1) = true then (some (bt309.2.2 == bt312.2.2)) else (some false)) else (some false)) else (some false)) else (some false)))))) else (some true)))) else (none)))) else (none)) else (none)) else (none))) else (none))) else (none)) else (none))
def crossbarlaw26_TariffRedundantBand.f (k : Nat) (l0_0 : List (S42)) (a1 : Int) (a2 : Int) (a3 : Int) (a4 : Int) : Option (Bool) := (crossbarlaw26_sane.f k).bind fun t282 => (if t282 = true then ((crossbarref26_Few.f l0_0).bind fun t283 => (if t283 = true then ((tariff_Check.f k l0_0).bind fun t284 => (if t284 = 0 then (if a1 < 0 then (crossbarlaw26_TariffRedundantBand.j0 k a1 a2 a3 a4 true l0_0) else (crossbarlaw26_TariffRedundantBand.j0 k a1 a2 a3 a4 (decide (a1 ≥ (l0_0.length : Int))) l0_0)) else (crossbarlaw26_TariffRedundantBand.j0 k a1 a2 a3 a4 true l0_0))) else (crossbarlaw26_TariffRedundantBand.j0 k a1 a2 a3 a4 true l0_0))) else (some false))
theorem crossbarlaw26_TariffRedundantBand.mono_l : ∀ k, (∀ y0 y1 y2 y3 y4 y5, LeO (crossbarlaw26_TariffRedundantBand.j0 k y0 y1 y2 y3 y4 y5) (crossbarlaw26_TariffRedundantBand.j0 (k + 1) y0 y1 y2 y3 y4 y5))
 | 0 => fun _ _ _ _ _ _ r h => by simp [crossbarlaw26_TariffRedundantBand.j0] at h
 | k + 1 => by
  have ih0 := crossbarlaw26_TariffRedundantBand.mono_l k
  ·intro y0 y1 y2 y3 y4 y5
   unfold crossbarlaw26_TariffRedundantBand.j0
   repeat' first
   | (with_reducible exact ih0 _ _ _ _ _ _)
   | (with_reducible exact crossbarlaw26_sane.mono _)
   | (with_reducible exact tariff_Change.mono _ _ _)
   | (with_reducible exact tariff_Check.mono _ _)
   | (with_reducible exact tariff_Price.mono _ _ _ _)
   | (with_reducible exact LeO.refl _)
   | (with_reducible exact LeO.none _)
   | (with_reducible refine LeO.ite ?_ ?_)
   | (with_reducible refine LeO.bind ?_ (fun _ => ?_))
   | exact ih0 _ _ _ _ _ _
   | exact crossbarlaw26_sane.mono _
   | exact tariff_Change.mono _ _ _
   | exact tariff_Check.mono _ _
   | exact tariff_Price.mono _ _ _ _
   | exact LeO.none _
   | refine LeO.ite ?_ ?_
   | refine LeO.bind ?_ (fun _ => ?_)
theorem crossbarlaw26_TariffRedundantBand.mono : ∀ a0 a1 a2 a3 a4 k, LeO (crossbarlaw26_TariffRedundantBand.f k a0 a1 a2 a3 a4) (crossbarlaw26_TariffRedundantBand.f (k + 1) a0 a1 a2 a3 a4) := by
 intro a0 a1 a2 a3 a4 k
 have ih0 := crossbarlaw26_TariffRedundantBand.mono_l k
 unfold crossbarlaw26_TariffRedundantBand.f
 repeat' first
   | (with_reducible exact ih0 _ _ _ _ _ _)
   | (with_reducible exact crossbarlaw26_sane.mono _)
   | (with_reducible exact tariff_Change.mono _ _ _)
   | (with_reducible exact tariff_Check.mono _ _)
   | (with_reducible exact tariff_Price.mono _ _ _ _)
   | (with_reducible exact LeO.refl _)
   | (with_reducible exact LeO.none _)
   | (with_reducible refine LeO.ite ?_ ?_)
   | (with_reducible refine LeO.bind ?_ (fun _ => ?_))
   | exact ih0 _ _ _ _ _ _
   | exact crossbarlaw26_sane.mono _
   | exact tariff_Change.mono _ _ _
   | exact tariff_Check.mono _ _
   | exact tariff_Price.mono _ _ _ _
   | exact LeO.none _
   | refine LeO.ite ?_ ?_
   | refine LeO.bind ?_ (fun _ => ?_)
def crossbarlaw26_TariffRedundantBand.T6 : Bool × List (List Nat × List Nat) := (true, [([], []), ([0], [0]), ([], []), ([], []), ([3], [3]), ([], []), ([4, 5], [4, 5]), ([6], [6]), ([7], [7]), ([2, 8], [2, 8]), ([9], [9]), ([1, 10], [1, 10]), ([0, 1, 2, 3, 4, 5, 6, 7, 8, 9, 10, 11], []), ([12, 11, 11, 0, 1, 2, 3, 4, 5, 6, 7, 8, 9, 10, 11], [11, 12])])
def crossbarlaw26_TariffRedundantBand.B6 : List Nat := [0, 1, 0, 0, 8, 0, 56, 120, 248, 508, 1020, 2047, 4095, 8191]
theorem crossbarlaw26_TariffRedundantBand.tab6 : rtab .any (opsOf Try.f10 6) = crossbarlaw26_TariffRedundantBand.T6 := by kernel_rfl
theorem crossbarlaw26_TariffRedundantBand.bits6 : waitsOk crossbarlaw26_TariffRedundantBand.T6.2 crossbarlaw26_TariffRedundantBand.B6 = true := by kernel_rfl
def crossbarlaw26_TariffRedundantBand.T7 : Bool × List (List Nat × List Nat) := (true, [([], []), ([0], [0]), ([], []), ([2], [2]), ([], []), ([4], [4]), ([3, 5], [3, 5]), ([1, 6], [1, 6]), ([0, 1, 2, 3, 4, 5, 6, 7], []), ([8, 7, 7, 0, 1, 2, 3, 4, 5, 6, 7], [7, 8])])
def crossbarlaw26_TariffRedundantBand.B7 : List Nat := [0, 1, 0, 4, 0, 16, 60, 127, 255, 511]
theorem crossbarlaw26_TariffRedundantBand.tab7 : rtab .any (opsOf Try.f10 7) = crossbarlaw26_TariffRedundantBand.T7 := by kernel_rfl
theorem crossbarlaw26_TariffRedundantBand.bits7 : waitsOk crossbarlaw26_TariffRedundantBand.T7.2 crossbarlaw26_TariffRedundantBand.B7 = true := by kernel_rfl
set_option maxHeartbeats 8000000 in
set_option maxRecDepth 100000 in
theorem crossbarlaw26_TariffRedundantBand.calls (k : Nat) (A0_0 : Option Addr) (c0_0 : Nat) (l0_0 : List (S42)) (a1 : Int) (a2 : Int) (a3 : Int) (a4 : Int) (r : Bool) (w : World) (hr0_0 : Kd.C k42 w A0_0 l0_0.length l0_0) (hc0_0 : l0_0.length ≤ c0_0) (h : crossbarlaw26_TariffRedundantBand.f k l0_0 a1 a2 a3 a4 = some r) (hT : r = true := by rfl) :
  Calls Try.prog 10 #[.agg #[.slice A0_0 l0_0.length c0_0], .int .i64 a1, .int .i64 a2, .int .i64 a3, .int .i64 a4] w fun e w' => e = .returned (.bool r) ∧ Below w.heap.size w w' := by
 have HT_TRUE := Aside0.mk hT
 clear hT
 have hu24 := Try.underlying24
 have hu42 := Try.underlying42
 have HR0_0 := Aside0.mk hr0_0
 have HC0_0 := Aside0.mk hc0_0
 clear hr0_0 hc0_0
 have HB := Aside0.mk (Below.refl w.heap.size w)
 have H : ((crossbarlaw26_sane.f k).bind fun t282 => (if t282 = true then ((crossbarref26_Few.f l0_0).bind fun t283 => (if t283 = true then ((tariff_Check.f k l0_0).bind fun t284 => (if t284 = 0 then (if a1 < 0 then (crossbarlaw26_TariffRedundantBand.j0 k a1 a2 a3 a4 true l0_0) else (crossbarlaw26_TariffRedundantBand.j0 k a1 a2 a3 a4 (decide (a1 ≥ (l0_0.length : Int))) l0_0)) else (crossbarlaw26_TariffRedundantBand.j0 k a1 a2 a3 a4 true l0_0))) else (crossbarlaw26_TariffRedundantBand.j0 k a1 a2 a3 a4 true l0_0))) else (some false))) = some r := h
 clear h
 replace H := Option.bind_eq_some_iff.mp H
 obtain ⟨t282, A60, H⟩ := H
 replace H : (if t282 = true then ((crossbarref26_Few.f l0_0).bind fun t283 => (if t283 = true then ((tariff_Check.f k l0_0).bind fun t284 => (if t284 = 0 then (if a1 < 0 then (crossbarlaw26_TariffRedundantBand.j0 k a1 a2 a3 a4 true l0_0) else (crossbarlaw26_TariffRedundantBand.j0 k a1 a2 a3 a4 (decide (a1 ≥ (l0_0.length : Int))) l0_0)) else (crossbarlaw26_TariffRedundantBand.j0 k a1 a2 a3 a4 true l0_0))) else (crossbarlaw26_TariffRedundantBand.j0 k a1 a2 a3 a4 true l0_0))) else (some false)) = some r := H
 have A6 := Aside0.mk A60
 clear A60
 by_cases c7 : t282 = true
 ·subst c7
  have H1 : ((crossbarref26_Few.f l0_0).bind fun t283 => (if t283 = true then ((tariff_Check.f k l0_0).bind fun t284 => (if t284 = 0 then (if a1 < 0 then (crossbarlaw26_TariffRedundantBand.j0 k a1 a2 a3 a4 true l0_0) else (crossbarlaw26_TariffRedundantBand.j0 k a1 a2 a3 a4 (decide (a1 ≥ (l0_0.length : Int))) l0_0)) else (crossbarlaw26_TariffRedundantBand.j0 k a1 a2 a3 a4 true l0_0))) else (crossbarlaw26_TariffRedundantBand.j0 k a1 a2 a3 a4 true l0_0))) = some r := by rw [if_pos rfl] at H; exact H
  clear H
  have H := H1
  clear H1
  have HC8 := Aside0.mk H
  clear H
  go_enter Try.func10, Try.ntmps10
  go_upto_region 3 with (first | ((with_reducible refine gate_dst (N := 5) rfl ?_); (try (refine gate_guard (by rfl) ?_; dsimp only)); refine box_event ?hg (N := 5) ?hd (cs := #[.slice A0_0 l0_0.length c0_0]) (t := 24) ?hr ?_; (case hd => rfl); (case hg => rfl); (case hr => first | (go_simp; done) | (go_simp; rfl)); intro gb281 hg w9 hbox hb; have n0_ := Aside0.mk (below_step (by repeat (first | (with_reducible first | exact HB.out | apply below_alloc | apply pw_below_drewN | apply below_drew1) | exact HB.out)) hb); have n1_ := Aside0.mk (hbox); have n2_ := Aside0.mk ((by rw [hg]; exact (below_size (by repeat (first | (with_reducible first | exact HB.out | apply below_alloc | apply pw_below_drewN | apply below_drew1) | exact HB.out))) : w.heap.size ≤ gb281)); have n3_ := Aside0.mk ((by rw [hg]; exact (below_size (by repeat (first | (with_reducible first | exact HB.out | apply below_alloc | apply pw_below_drewN | apply below_drew1) | exact HB.out))) : w.heap.size ≤ gb281)); clear HB; have HB := n0_; have BK281 := n1_; have GW281 := n2_; have GE281 := n3_; clear n0_ n1_ n2_ n3_; clear hb hbox hg) | ((with_reducible refine gate_callee (f := 20) rfl ?_); refine goesL_ (some 22) rfl rfl Try.func20 (by kernel_rfl) rfl #[] rfl (by (try simp only [List.map_toArray, List.map_cons, List.map_nil]); first | done | rfl | (simp only [List.length_drop, List.length_take]; rfl)) ?_; (with_reducible refine (crossbarlaw26_sane.calls k  true _ A6.out).mono ?_); rintro e w10 ⟨rfl, hb⟩; refine ⟨_, rfl, ?_⟩; have n0_ := Aside0.mk (blk_below (g := gb281) (o := .cells #[.slice A0_0 l0_0.length c0_0] 24 (0, 0)) (by (with_reducible repeat (first | refine blk_drewN ?_ _ | refine blk_drew ?_ | refine blk_alloc ?_ _)); exact BK281.out) hb); have n1_ := Aside0.mk (below_step (by repeat (first | (with_reducible first | exact HB.out | apply below_alloc | apply pw_below_drewN | apply below_drew1 | refine below_set ?_ GE281.out) | exact HB.out)) hb); clear BK281; clear HB; have BK281 := n0_; have HB := n1_; clear n0_ n1_; (try clear hb); (try clear hb2); (try clear hk); (try clear hi)))
  (try simp only [Act.put, List.setIfInBounds_toArray, List.set_cons_zero, List.set_cons_succ])
  go_cut [42] (fun v42 wc => ∃ (kq : Nat) (x42_7 : Bool), v42 = .bool x42_7 ∧ Aside0 (crossbarlaw26_TariffRedundantBand.j0 kq a1 a2 a3 a4 x42_7 l0_0 = some r) ∧ Aside0 (kq ≤ k) ∧ Aside0 (wc.heap[gb281]? = some (.cells #[(.slice A0_0 l0_0.length c0_0)] 24 (0, 0))) ∧ Aside0 (Below w.heap.size w wc))
  case first =>
   have H := HC8.out
   clear HC8
   replace H := Option.bind_eq_some_iff.mp H
   obtain ⟨t283, A110, H⟩ := H
   replace H : (if t283 = true then ((tariff_Check.f k l0_0).bind fun t284 => (if t284 = 0 then (if a1 < 0 then (crossbarlaw26_TariffRedundantBand.j0 k a1 a2 a3 a4 true l0_0) else (crossbarlaw26_TariffRedundantBand.j0 k a1 a2 a3 a4 (decide (a1 ≥ (l0_0.length : Int))) l0_0)) else (crossbarlaw26_TariffRedundantBand.j0 k a1 a2 a3 a4 true l0_0))) else (crossbarlaw26_TariffRedundantBand.j0 k a1 a2 a3 a4 true l0_0)) = some r := H
   have A11 := Aside0.mk A110
   clear A110
   by_cases c12 : t283 = true
   ·subst c12
    have H1 : ((tariff_Check.f k l0_0).bind fun t284 => (if t284 = 0 then (if a1 < 0 then (crossbarlaw26_TariffRedundantBand.j0 k a1 a2 a3 a4 true l0_0) else (crossbarlaw26_TariffRedundantBand.j0 k a1 a2 a3 a4 (decide (a1 ≥ (l0_0.length : Int))) l0_0)) else (crossbarlaw26_TariffRedundantBand.j0 k a1 a2 a3 a4 true l0_0))) = some r := by rw [if_pos rfl] at H; exact H
    clear H
    have H := H1
    clear H1
    replace H := Option.bind_eq_some_iff.mp H
    obtain ⟨t284, A130, H⟩ := H
    replace H : (if t284 = 0 then (if a1 < 0 then (crossbarlaw26_TariffRedundantBand.j0 k a1 a2 a3 a4 true l0_0) else (crossbarlaw26_TariffRedundantBand.j0 k a1 a2 a3 a4 (decide (a1 ≥ (l0_0.length : Int))) l0_0)) else (crossbarlaw26_TariffRedundantBand.j0 k a1 a2 a3 a4 true l0_0)) = some r := H
    have A13 := Aside0.mk A130
    clear A130
    by_cases c14 : t284 = 0
    ·rw [if_pos c14] at H
     have c14b0 : (t284 == 0) = true := beq_iff_eq.mpr c14
     have c14b1 : (t284 != 0) = false := bne_eq_false_iff_eq.mpr c14
     clear c14
     (first | rw [c14b0] | (simp only [i64_w, i32_w]; rw [c14b0]) | skip)
     by_cases c15 : a1 < 0
     ·rw [if_pos c15] at H
      have c15b0 : decide (a1 < 0) = true := decide_eq_true c15
      clear c15
      have H' := Aside0.mk H
      clear H
      have hcz16_0 : w10.cell? ⟨gb281, 0, none⟩ = some (.slice A0_0 l0_0.length c0_0) := (blk_cell BK281.out 0).trans rfl
      have hfz16_0 := blk_frozen BK281.out 0
      go_wp2_with (first | ((with_reducible refine gate_callee (f := 21) rfl ?_); refine goesL_ (some 25) rfl rfl Try.func21 (by kernel_rfl) rfl #[.agg #[.slice A0_0 l0_0.length c0_0]] rfl (by (try simp only [List.map_toArray, List.map_cons, List.map_nil]); first | done | rfl | (simp only [List.length_drop, List.length_take]; rfl)) ?_; (with_reducible refine (crossbarref26_Few.calls _ _ l0_0 true _ ?side1 ?side2 A11.out).mono ?_); (case side1 => repeat (first | exact (Kd.C_below HR0_0.out HB.out) | (with_reducible refine Kd.C_alloc ?_ _) | (with_reducible refine Kd.C_drewN ?_ _) | (with_reducible refine Kd.C_drew ?_))); (case side2 => exact HC0_0.out); rintro e w17 ⟨rfl, hb⟩; refine ⟨_, rfl, ?_⟩; have n0_ := Aside0.mk (blk_below (g := gb281) (o := .cells #[.slice A0_0 l0_0.length c0_0] 24 (0, 0)) (by (with_reducible repeat (first | refine blk_drewN ?_ _ | refine blk_drew ?_ | refine blk_alloc ?_ _)); exact BK281.out) hb); have n1_ := Aside0.mk (below_step (by repeat (first | (with_reducible first | exact HB.out | apply below_alloc | apply pw_below_drewN | apply below_drew1 | refine below_set ?_ GE281.out) | exact HB.out)) hb); clear BK281; clear HB; have BK281 := n0_; have HB := n1_; clear n0_ n1_; (try clear hb); (try clear hb2); (try clear hk); (try clear hi); have hcz18_0 : w17.cell? ⟨gb281, 0, none⟩ = some (.slice A0_0 l0_0.length c0_0) := (blk_cell BK281.out 0).trans rfl; have hfz18_0 := blk_frozen BK281.out 0) | (go_at_call 26; (with_reducible refine (tariff_Check.calls k _ _ l0_0 t284 _ ?side1 ?side2 A13.out).mono ?_); (case side1 => repeat (first | exact (Kd.C_below HR0_0.out HB.out) | (with_reducible refine Kd.C_alloc ?_ _) | (with_reducible refine Kd.C_drewN ?_ _) | (with_reducible refine Kd.C_drew ?_))); (case side2 => exact HC0_0.out); rintro e w19 ⟨rfl, hb⟩; have n0_ := Aside0.mk (blk_below (g := gb281) (o := .cells #[.slice A0_0 l0_0.length c0_0] 24 (0, 0)) (by (with_reducible repeat (first | refine blk_drewN ?_ _ | refine blk_drew ?_ | refine blk_alloc ?_ _)); exact BK281.out) hb); have n1_ := Aside0.mk (below_step (by repeat (first | (with_reducible first | exact HB.out | apply below_alloc | apply pw_below_drewN | apply below_drew1 | refine below_set ?_ GE281.out) | exact HB.out)) hb); clear BK281; clear HB; have BK281 := n0_; have HB := n1_; clear n0_ n1_; (try clear hb); (try clear hb2); (try clear hk); (try clear hi)))
      go_meet
      case rel => exact ⟨_, (true), (by first | rfl | (simp; done) | (simp [*]; done)), H', ⟨by first | omega | exact Nat.le_refl _⟩, ⟨by (with_reducible repeat (first | refine blk_drewN ?_ _ | refine blk_drew ?_ | refine blk_alloc ?_ _)); exact BK281.out⟩, ⟨by repeat (first | (with_reducible first | exact HB.out | apply below_alloc | apply pw_below_drewN | apply below_drew1 | refine below_set ?_ GE281.out) | exact HB.out)⟩⟩
     ·rw [if_neg c15] at H
      have c15b0 : decide (a1 < 0) = false := decide_eq_false c15
      clear c15
      have H' := Aside0.mk H
      clear H
      have hcz20_0 : w10.cell? ⟨gb281, 0, none⟩ = some (.slice A0_0 l0_0.length c0_0) := (blk_cell BK281.out 0).trans rfl
      have hfz20_0 := blk_frozen BK281.out 0
      go_wp2_with (first | ((with_reducible refine gate_callee (f := 21) rfl ?_); refine goesL_ (some 25) rfl rfl Try.func21 (by kernel_rfl) rfl #[.agg #[.slice A0_0 l0_0.length c0_0]] rfl (by (try simp only [List.map_toArray, List.map_cons, List.map_nil]); first | done | rfl | (simp only [List.length_drop, List.length_take]; rfl)) ?_; (with_reducible refine (crossbarref26_Few.calls _ _ l0_0 true _ ?side1 ?side2 A11.out).mono ?_); (case side1 => repeat (first | exact (Kd.C_below HR0_0.out HB.out) | (with_reducible refine Kd.C_alloc ?_ _) | (with_reducible refine Kd.C_drewN ?_ _) | (with_reducible refine Kd.C_drew ?_))); (case side2 => exact HC0_0.out); rintro e w21 ⟨rfl, hb⟩; refine ⟨_, rfl, ?_⟩; have n0_ := Aside0.mk (blk_below (g := gb281) (o := .cells #[.slice A0_0 l0_0.length c0_0] 24 (0, 0)) (by (with_reducible repeat (first | refine blk_drewN ?_ _ | refine blk_drew ?_ | refine blk_alloc ?_ _)); exact BK281.out) hb); have n1_ := Aside0.mk (below_step (by repeat (first | (with_reducible first | exact HB.out | apply below_alloc | apply pw_below_drewN | apply below_drew1 | refine below_set ?_ GE281.out) | exact HB.out)) hb); clear BK281; clear HB; have BK281 := n0_; have HB := n1_; clear n0_ n1_; (try clear hb); (try clear hb2); (try clear hk); (try clear hi); have hcz22_0 : w21.cell? ⟨gb281, 0, none⟩ = some (.slice A0_0 l0_0.length c0_0) := (blk_cell BK281.out 0).trans rfl; have hfz22_0 := blk_frozen BK281.out 0) | (go_at_call 26; (with_reducible refine (tariff_Check.calls k _ _ l0_0 t284 _ ?side1 ?side2 A13.out).mono ?_); (case side1 => repeat (first | exact (Kd.C_below HR0_0.out HB.out) | (with_reducible refine Kd.C_alloc ?_ _) | (with_reducible refine Kd.C_drewN ?_ _) | (with_reducible refine Kd.C_drew ?_))); (case side2 => exact HC0_0.out); rintro e w23 ⟨rfl, hb⟩; have n0_ := Aside0.mk (blk_below (g := gb281) (o := .cells #[.slice A0_0 l0_0.length c0_0] 24 (0, 0)) (by (with_reducible repeat (first | refine blk_drewN ?_ _ | refine blk_drew ?_ | refine blk_alloc ?_ _)); exact BK281.out) hb); have n1_ := Aside0.mk (below_step (by repeat (first | (with_reducible first | exact HB.out | apply below_alloc | apply pw_below_drewN | apply below_drew1 | refine below_set ?_ GE281.out) | exact HB.out)) hb); clear BK281; clear HB; have BK281 := n0_; have HB := n1_; clear n0_ n1_; (try clear hb); (try clear hb2); (try clear hk); (try clear hi); have hcz24_0 : w23.cell? ⟨gb281, 0, none⟩ = some (.slice A0_0 l0_0.length c0_0) := (blk_cell BK281.out 0).trans rfl; have hfz24_0 := blk_frozen BK281.out 0))
      go_meet
      case rel => exact ⟨_, (decide (a1 ≥ (l0_0.length : Int))), (by first | rfl | (simp; done) | (simp [*]; done)), H', ⟨by first | omega | exact Nat.le_refl _⟩, ⟨by (with_reducible repeat (first | refine blk_drewN ?_ _ | refine blk_drew ?_ | refine blk_alloc ?_ _)); exact BK281.out⟩, ⟨by repeat (first | (with_reducible first | exact HB.out | apply below_alloc | apply pw_below_drewN | apply below_drew1 | refine below_set ?_ GE281.out) | exact HB.out)⟩⟩
    ·rw [if_neg c14] at H
     have c14b0 : (t284 == 0) = false := beq_eq_false_iff_ne.mpr c14
     have c14b1 : (t284 != 0) = true := bne_iff_ne.mpr c14
     (first | rw [c14b0] | (simp only [i64_w, i32_w]; rw [c14b0]) | skip)
     have H' := Aside0.mk H
     clear H
     have hcz25_0 : w10.cell? ⟨gb281, 0, none⟩ = some (.slice A0_0 l0_0.length c0_0) := (blk_cell BK281.out 0).trans rfl
     have hfz25_0 := blk_frozen BK281.out 0
     go_wp2_with (first | ((with_reducible refine gate_callee (f := 21) rfl ?_); refine goesL_ (some 25) rfl rfl Try.func21 (by kernel_rfl) rfl #[.agg #[.slice A0_0 l0_0.length c0_0]] rfl (by (try simp only [List.map_toArray, List.map_cons, List.map_nil]); first | done | rfl | (simp only [List.length_drop, List.length_take]; rfl)) ?_; (with_reducible refine (crossbarref26_Few.calls _ _ l0_0 true _ ?side1 ?side2 A11.out).mono ?_); (case side1 => repeat (first | exact (Kd.C_below HR0_0.out HB.out) | (with_reducible refine Kd.C_alloc ?_ _) | (with_reducible refine Kd.C_drewN ?_ _) | (with_reducible refine Kd.C_drew ?_))); (case side2 => exact HC0_0.out); rintro e w26 ⟨rfl, hb⟩; refine ⟨_, rfl, ?_⟩; have n0_ := Aside0.mk (blk_below (g := gb281) (o := .cells #[.slice A0_0 l0_0.length c0_0] 24 (0, 0)) (by (with_reducible repeat (first | refine blk_drewN ?_ _ | refine blk_drew ?_ | refine blk_alloc ?_ _)); exact BK281.out) hb); have n1_ := Aside0.mk (below_step (by repeat (first | (with_reducible first | exact HB.out | apply below_alloc | apply pw_below_drewN | apply below_drew1 | refine below_set ?_ GE281.out) | exact HB.out)) hb); clear BK281; clear HB; have BK281 := n0_; have HB := n1_; clear n0_ n1_; (try clear hb); (try clear hb2); (try clear hk); (try clear hi); have hcz27_0 : w26.cell? ⟨gb281, 0, none⟩ = some (.slice A0_0 l0_0.length c0_0) := (blk_cell BK281.out 0).trans rfl; have hfz27_0 := blk_frozen BK281.out 0) | (go_at_call 26; (with_reducible refine (tariff_Check.calls k _ _ l0_0 t284 _ ?side1 ?side2 A13.out).mono ?_); (case side1 => repeat (first | exact (Kd.C_below HR0_0.out HB.out) | (with_reducible refine Kd.C_alloc ?_ _) | (with_reducible refine Kd.C_drewN ?_ _) | (with_reducible refine Kd.C_drew ?_))); (case side2 => exact HC0_0.out); rintro e w28 ⟨rfl, hb⟩; have n0_ := Aside0.mk (blk_below (g := gb281) (o := .cells #[.slice A0_0 l0_0.length c0_0] 24 (0, 0)) (by (with_reducible repeat (first | refine blk_drewN ?_ _ | refine blk_drew ?_ | refine blk_alloc ?_ _)); exact BK281.out) hb); have n1_ := Aside0.mk (below_step (by repeat (first | (with_reducible first | exact HB.out | apply below_alloc | apply pw_below_drewN | apply below_drew1 | refine below_set ?_ GE281.out) | exact HB.out)) hb); clear BK281; clear HB; have BK281 := n0_; have HB := n1_; clear n0_ n1_; (try clear hb); (try clear hb2); (try clear hk); (try clear hi)))
     go_meet
     case rel => exact ⟨_, (true), (by first | rfl | (simp; done) | (simp [*]; done)), H', ⟨by first | omega | exact Nat.le_refl _⟩, ⟨by (with_reducible repeat (first | refine blk_drewN ?_ _ | refine blk_drew ?_ | refine blk_alloc ?_ _)); exact BK281.out⟩, ⟨by repeat (first | (with_reducible first | exact HB.out | apply below_alloc | apply pw_below_drewN | apply below_drew1 | refine below_set ?_ GE281.out) | exact HB.out)⟩⟩
   ·replace c12 := Bool.eq_false_iff.mpr c12
    subst c12
    have H1 : (crossbarlaw26_TariffRedundantBand.j0 k a1 a2 a3 a4 true l0_0) = some r := by rw [if_neg (show ¬ (false = true) by decide)] at H; exact H
    clear H
    have H := H1
    clear H1
    have H' := Aside0.mk H
    clear H
    have hcz29_0 : w10.cell? ⟨gb281, 0, none⟩ = some (.slice A0_0 l0_0.length c0_0) := (blk_cell BK281.out 0).trans rfl
    have hfz29_0 := blk_frozen BK281.out 0
    go_wp2_with (first | ((with_reducible refine gate_callee (f := 21) rfl ?_); refine goesL_ (some 25) rfl rfl Try.func21 (by kernel_rfl) rfl #[.agg #[.slice A0_0 l0_0.length c0_0]] rfl (by (try simp only [List.map_toArray, List.map_cons, List.map_nil]); first | done | rfl | (simp only [List.length_drop, List.length_take]; rfl)) ?_; (with_reducible refine (crossbarref26_Few.calls _ _ l0_0 false _ ?side1 ?side2 A11.out).mono ?_); (case side1 => repeat (first | exact (Kd.C_below HR0_0.out HB.out) | (with_reducible refine Kd.C_alloc ?_ _) | (with_reducible refine Kd.C_drewN ?_ _) | (with_reducible refine Kd.C_drew ?_))); (case side2 => exact HC0_0.out); rintro e w30 ⟨rfl, hb⟩; refine ⟨_, rfl, ?_⟩; have n0_ := Aside0.mk (blk_below (g := gb281) (o := .cells #[.slice A0_0 l0_0.length c0_0] 24 (0, 0)) (by (with_reducible repeat (first | refine blk_drewN ?_ _ | refine blk_drew ?_ | refine blk_alloc ?_ _)); exact BK281.out) hb); have n1_ := Aside0.mk (below_step (by repeat (first | (with_reducible first | exact HB.out | apply below_alloc | apply pw_below_drewN | apply below_drew1 | refine below_set ?_ GE281.out) | exact HB.out)) hb); clear BK281; clear HB; have BK281 := n0_; have HB := n1_; clear n0_ n1_; (try clear hb); (try clear hb2); (try clear hk); (try clear hi)))
    go_meet
    case rel => exact ⟨_, (true), (by first | rfl | (simp; done) | (simp [*]; done)), H', ⟨by first | omega | exact Nat.le_refl _⟩, ⟨by (with_reducible repeat (first | refine blk_drewN ?_ _ | refine blk_drew ?_ | refine blk_alloc ?_ _)); exact BK281.out⟩, ⟨by repeat (first | (with_reducible first | exact HB.out | apply below_alloc | apply pw_below_drewN | apply below_drew1 | refine below_set ?_ GE281.out) | exact HB.out)⟩⟩
  case rest =>
   clear HC8
   try clear c1
   try clear c2
   try clear p2
   try clear c7
   try clear c10
   try clear c12
   try clear c14
   try clear c14b0
   try clear c14b1
   try clear c15
   try clear c15b0
   try clear c20
   try clear c21
   try clear hcz16_0
   try clear hcz18_0
   try clear hcz20_0
   try clear hcz22_0
   try clear hcz24_0
   try clear hcz25_0
   try clear hcz27_0
   try clear hcz29_0
   try clear hfz16_0
   try clear hfz18_0
   try clear hfz20_0
   try clear hfz22_0
   try clear hfz24_0
   try clear hfz25_0
   try clear hfz27_0
   try clear hfz29_0
   obtain ⟨kq, x42_7, rfl, HA, HJ7, BK281, HB⟩ := hcut
   cases kq with
   | zero => exact absurd HA.out (by simp [crossbarlaw26_TariffRedundantBand.j0])
   | succ kj7 =>
    have H := HA.out
    clear HA
    simp only [crossbarlaw26_TariffRedundantBand.j0] at H
    by_cases c31 : x42_7 = true
    ·subst c31
     have H1 : (some true) = some r := by rw [if_pos rfl] at H; exact H
     clear H
     have H := H1
     clear H1
     obtain rfl := Option.some.inj H
     go_wp2
     go_ret
     exact ⟨by first | rfl | (simp [errW_none, errW_some] <;> rfl) | (simp [*, errW_none, errW_some] <;> rfl), by repeat (first | (with_reducible first | exact HB.out | apply below_alloc | apply pw_below_drewN | apply below_drew1 | refine below_set ?_ GE281.out) | exact HB.out)⟩
    ·replace c31 := Bool.eq_false_iff.mpr c31
     subst c31
     have H1 : (if 0 ≤ (wrap64 (a1 + 1)) then (if (wrap64 (a1 + 1)) ≤ (l0_0.length : Int) then ((some (l0_0.take ((wrap64 (a1 + 1)) : Int).toNat : List (S42))).bind fun y285 => (if ([] : List (S42)).length + y285.length < 8796093022208 then ((some (([] : List (S42)) ++ y285 : List (S42))).bind fun y289 => (if 0 ≤ a1 then (if a1 < (l0_0.length : Int) then (if y289.length < 8796093022208 then ((some (y289 ++ [(⟨a2, (rd_T42 l0_0 a1).f1⟩ : S42)] : List (S42))).bind fun y294 => ((some (l0_0.drop ((wrap64 (a1 + 1)) : Int).toNat : List (S42))).bind fun y297 => (if y294.length + y297.length < 8796093022208 then ((some (y294 ++ y297 : List (S42))).bind fun y301 => ((tariff_Check.f kj7 y301).bind fun t304 => (if t304 = 0 then ((tariff_Price.f kj7 l0_0 a3 a4).bind fun bt305 => ((tariff_Price.f kj7 y301 a3 a4).bind fun bt307 => ((tariff_Change.f kj7 l0_0 a3).bind fun bt309 => ((tariff_Change.f kj7 y301 a3).bind fun bt312 => (if bt305.1 = bt307.1 then (if bt305.2 = bt307.2 then (if bt309.1 = bt312.1 then (if (bt309.2.1 == bt312.2.1) = true then (some (bt309.2.2 == bt312.2.2)) else (some false)) else (some false)) else (some false)) else (some false)))))) else (some true)))) else (none)))) else (none)) else (none)) else (none))) else (none))) else (none)) else (none)) = some r := by rw [if_neg (show ¬ (false = true) by decide)] at H; exact H
     clear H
     have H := H1
     clear H1
     obtain ⟨ji32, hji32⟩ : ∃ j_ : Int, (wrap64 (a1 + 1)) = j_ := ⟨_, rfl⟩
     replace H : (if 0 ≤ (ji32) then (if (ji32) ≤ (l0_0.length : Int) then ((some (l0_0.take ((ji32) : Int).toNat : List (S42))).bind fun y285 => (if ([] : List (S42)).length + y285.length < 8796093022208 then ((some (([] : List (S42)) ++ y285 : List (S42))).bind fun y289 => (if 0 ≤ a1 then (if a1 < (l0_0.length : Int) then (if y289.length < 8796093022208 then ((some (y289 ++ [(⟨a2, (rd_T42 l0_0 a1).f1⟩ : S42)] : List (S42))).bind fun y294 => ((some (l0_0.drop ((ji32) : Int).toNat : List (S42))).bind fun y297 => (if y294.length + y297.length < 8796093022208 then ((some (y294 ++ y297 : List (S42))).bind fun y301 => ((tariff_Check.f kj7 y301).bind fun t304 => (if t304 = 0 then ((tariff_Price.f kj7 l0_0 a3 a4).bind fun bt305 => ((tariff_Price.f kj7 y301 a3 a4).bind fun bt307 => ((tariff_Change.f kj7 l0_0 a3).bind fun bt309 => ((tariff_Change.f kj7 y301 a3).bind fun bt312 => (if bt305.1 = bt307.1 then (if bt305.2 = bt307.2 then (if bt309.1 = bt312.1 then (if (bt309.2.1 == bt312.2.1) = true then (some (bt309.2.2 == bt312.2.2)) else (some false)) else (some false)) else (some false)) else (some false)))))) else (some true)))) else (none)))) else (none)) else (none)) else (none))) else (none))) else (none)) else (none)) = some r := by first | (rw [hji32] at H; exact H) | (simp only [hji32] at H ⊢; exact H)
     have hji32w : (IntKind.i64.wrap (a1 + 1)) = ji32 := (i64_w _).trans hji32
     by_cases c33 : 0 ≤ (ji32)
     ·rw [if_pos c33] at H
      have c33b0 := eq_true c33
      have c33b1 : decide (0 ≤ (ji32)) = true := decide_eq_true c33
      clear c33
      by_cases c34 : (ji32) ≤ (l0_0.length : Int)
      ·rw [if_pos c34] at H
       have c34b0 := eq_true c34
       have c34b1 : decide ((ji32) ≤ (l0_0.length : Int)) = true := decide_eq_true c34
       clear c34
       obtain ⟨y285, hy285⟩ : ∃ y_ : List (S42), y_ = (l0_0.take ((ji32) : Int).toNat) := ⟨_, rfl⟩
       replace H : (if ([] : List (S42)).length + y285.length < 8796093022208 then ((some (([] : List (S42)) ++ y285 : List (S42))).bind fun y289 => (if 0 ≤ a1 then (if a1 < (l0_0.length : Int) then (if y289.length < 8796093022208 then ((some (y289 ++ [(⟨a2, (rd_T42 l0_0 a1).f1⟩ : S42)] : List (S42))).bind fun y294 => ((some (l0_0.drop ((ji32) : Int).toNat : List (S42))).bind fun y297 => (if y294.length + y297.length < 8796093022208 then ((some (y294 ++ y297 : List (S42))).bind fun y301 => ((tariff_Check.f kj7 y301).bind fun t304 => (if t304 = 0 then ((tariff_Price.f kj7 l0_0 a3 a4).bind fun bt305 => ((tariff_Price.f kj7 y301 a3 a4).bind fun bt307 => ((tariff_Change.f kj7 l0_0 a3).bind fun bt309 => ((tariff_Change.f kj7 y301 a3).bind fun bt312 => (if bt305.1 = bt307.1 then (if bt305.2 = bt307.2 then (if bt309.1 = bt312.1 then (if (bt309.2.1 == bt312.2.1) = true then (some (bt309.2.2 == bt312.2.2)) else (some false)) else (some false)) else (some false)) else (some false)))))) else (some true)))) else (none)))) else (none)) else (none)) else (none))) else (none)) = some r := by first | (rw [hy285]; with_reducible exact H) | (have H2_ := (Option.bind_some _ _).symm.trans H; rw [hy285]; with_reducible exact H2_) | (have H2_ := (Option.bind_some _ _).symm.trans H; with_reducible exact H2_) | with_reducible exact H | (rw [hy285]; exact H) | exact H
       have Ny285 := Aside0.mk hy285
       clear hy285
       by_cases c35 : ([] : List (S42)).length + y285.length < 8796093022208
       ·rw [if_pos c35] at H
        have LMc35 := Aside0.mk c35
        clear c35
        obtain ⟨y289, hy289⟩ : ∃ y_ : List (S42), y_ = (([] : List (S42)) ++ y285) := ⟨_, rfl⟩
        replace H : (if 0 ≤ a1 then (if a1 < (l0_0.length : Int) then (if y289.length < 8796093022208 then ((some (y289 ++ [(⟨a2, (rd_T42 l0_0 a1).f1⟩ : S42)] : List (S42))).bind fun y294 => ((some (l0_0.drop ((ji32) : Int).toNat : List (S42))).bind fun y297 => (if y294.length + y297.length < 8796093022208 then ((some (y294 ++ y297 : List (S42))).bind fun y301 => ((tariff_Check.f kj7 y301).bind fun t304 => (if t304 = 0 then ((tariff_Price.f kj7 l0_0 a3 a4).bind fun bt305 => ((tariff_Price.f kj7 y301 a3 a4).bind fun bt307 => ((tariff_Change.f kj7 l0_0 a3).bind fun bt309 => ((tariff_Change.f kj7 y301 a3).bind fun bt312 => (if bt305.1 = bt307.1 then (if bt305.2 = bt307.2 then (if bt309.1 = bt312.1 then (if (bt309.2.1 == bt312.2.1) = true then (some (bt309.2.2 == bt312.2.2)) else (some false)) else (some false)) else (some false)) else (some false)))))) else (some true)))) else (none)))) else (none)) else (none)) else (none)) = some r := by first | (rw [hy289]; with_reducible exact H) | (have H2_ := (Option.bind_some _ _).symm.trans H; rw [hy289]; with_reducible exact H2_) | (have H2_ := (Option.bind_some _ _).symm.trans H; with_reducible exact H2_) | with_reducible exact H | (rw [hy289]; exact H) | exact H
        have Ny289 := Aside0.mk hy289
        clear hy289
        by_cases c36 : 0 ≤ a1
        ·rw [if_pos c36] at H
         have c36b0 : decide (0 ≤ a1) = true := decide_eq_true c36
         clear c36
         by_cases c37 : a1 < (l0_0.length : Int)
         ·rw [if_pos c37] at H
          have c37b0 : decide (a1 < (l0_0.length : Int)) = true := decide_eq_true c37
          clear c37
          by_cases c38 : y289.length < 8796093022208
          ·rw [if_pos c38] at H
           have LMc38 := Aside0.mk c38
           clear c38
           obtain ⟨y294, hy294⟩ : ∃ y_ : List (S42), y_ = (y289 ++ [(⟨a2, (rd_T42 l0_0 a1).f1⟩ : S42)]) := ⟨_, rfl⟩
           replace H : ((some (l0_0.drop ((ji32) : Int).toNat : List (S42))).bind fun y297 => (if y294.length + y297.length < 8796093022208 then ((some (y294 ++ y297 : List (S42))).bind fun y301 => ((tariff_Check.f kj7 y301).bind fun t304 => (if t304 = 0 then ((tariff_Price.f kj7 l0_0 a3 a4).bind fun bt305 => ((tariff_Price.f kj7 y301 a3 a4).bind fun bt307 => ((tariff_Change.f kj7 l0_0 a3).bind fun bt309 => ((tariff_Change.f kj7 y301 a3).bind fun bt312 => (if bt305.1 = bt307.1 then (if bt305.2 = bt307.2 then (if bt309.1 = bt312.1 then (if (bt309.2.1 == bt312.2.1) = true then (some (bt309.2.2 == bt312.2.2)) else (some false)) else (some false)) else (some false)) else (some false)))))) else (some true)))) else (none))) = some r := by first | (rw [hy294]; with_reducible exact H) | (have H2_ := (Option.bind_some _ _).symm.trans H; rw [hy294]; with_reducible exact H2_) | (have H2_ := (Option.bind_some _ _).symm.trans H; with_reducible exact H2_) | with_reducible exact H | (rw [hy294]; exact H) | exact H
           have Ny294 := Aside0.mk hy294
           clear hy294
           have c39b0 := eq_true (of_decide_eq_true (by first | (with_reducible assumption) | assumption) : 0 ≤ (ji32))
           have c40b0 := eq_true (of_decide_eq_true (by first | (with_reducible assumption) | assumption) : (ji32) ≤ (l0_0.length : Int))
           obtain ⟨y297, hy297⟩ : ∃ y_ : List (S42), y_ = (l0_0.drop ((ji32) : Int).toNat) := ⟨_, rfl⟩
           replace H : (if y294.length + y297.length < 8796093022208 then ((some (y294 ++ y297 : List (S42))).bind fun y301 => ((tariff_Check.f kj7 y301).bind fun t304 => (if t304 = 0 then ((tariff_Price.f kj7 l0_0 a3 a4).bind fun bt305 => ((tariff_Price.f kj7 y301 a3 a4).bind fun bt307 => ((tariff_Change.f kj7 l0_0 a3).bind fun bt309 => ((tariff_Change.f kj7 y301 a3).bind fun bt312 => (if bt305.1 = bt307.1 then (if bt305.2 = bt307.2 then (if bt309.1 = bt312.1 then (if (bt309.2.1 == bt312.2.1) = true then (some (bt309.2.2 == bt312.2.2)) else (some false)) else (some false)) else (some false)) else (some false)))))) else (some true)))) else (none)) = some r := by first | (rw [hy297]; with_reducible exact H) | (have H2_ := (Option.bind_some _ _).symm.trans H; rw [hy297]; with_reducible exact H2_) | (have H2_ := (Option.bind_some _ _).symm.trans H; with_reducible exact H2_) | with_reducible exact H | (rw [hy297]; exact H) | exact H
           have Ny297 := Aside0.mk hy297
           clear hy297
           by_cases c41 : y294.length + y297.length < 8796093022208
           ·rw [if_pos c41] at H
            have LMc41 := Aside0.mk c41
            clear c41
            obtain ⟨y301, hy301⟩ : ∃ y_ : List (S42), y_ = (y294 ++ y297) := ⟨_, rfl⟩
            replace H : ((tariff_Check.f kj7 y301).bind fun t304 => (if t304 = 0 then ((tariff_Price.f kj7 l0_0 a3 a4).bind fun bt305 => ((tariff_Price.f kj7 y301 a3 a4).bind fun bt307 => ((tariff_Change.f kj7 l0_0 a3).bind fun bt309 => ((tariff_Change.f kj7 y301 a3).bind fun bt312 => (if bt305.1 = bt307.1 then (if bt305.2 = bt307.2 then (if bt309.1 = bt312.1 then (if (bt309.2.1 == bt312.2.1) = true then (some (bt309.2.2 == bt312.2.2)) else (some false)) else (some false)) else (some false)) else (some false)))))) else (some true))) = some r := by first | (rw [hy301]; with_reducible exact H) | (have H2_ := (Option.bind_some _ _).symm.trans H; rw [hy301]; with_reducible exact H2_) | (have H2_ := (Option.bind_some _ _).symm.trans H; with_reducible exact H2_) | with_reducible exact H | (rw [hy301]; exact H) | exact H
            have Ny301 := Aside0.mk hy301
            clear hy301
            replace H := Option.bind_eq_some_iff.mp H
            obtain ⟨t304, A420, H⟩ := H
            replace H : (if t304 = 0 then ((tariff_Price.f kj7 l0_0 a3 a4).bind fun bt305 => ((tariff_Price.f kj7 y301 a3 a4).bind fun bt307 => ((tariff_Change.f kj7 l0_0 a3).bind fun bt309 => ((tariff_Change.f kj7 y301 a3).bind fun bt312 => (if bt305.1 = bt307.1 then (if bt305.2 = bt307.2 then (if bt309.1 = bt312.1 then (if (bt309.2.1 == bt312.2.1) = true then (some (bt309.2.2 == bt312.2.2)) else (some false)) else (some false)) else (some false)) else (some false)))))) else (some true)) = some r := H
            have A42 := Aside0.mk A420
            clear A420
            by_cases c43 : t304 = 0
            ·rw [if_pos c43] at H
             have c43b0 : (t304 == 0) = true := beq_iff_eq.mpr c43
             have c43b1 : (t304 != 0) = false := bne_eq_false_iff_eq.mpr c43
             clear c43
             replace H := Option.bind_eq_some_iff.mp H
             obtain ⟨⟨t305, t306⟩, A440, H⟩ := H
             replace H : ((tariff_Price.f kj7 y301 a3 a4).bind fun bt307 => ((tariff_Change.f kj7 l0_0 a3).bind fun bt309 => ((tariff_Change.f kj7 y301 a3).bind fun bt312 => (if t305 = bt307.1 then (if t306 = bt307.2 then (if bt309.1 = bt312.1 then (if (bt309.2.1 == bt312.2.1) = true then (some (bt309.2.2 == bt312.2.2)) else (some false)) else (some false)) else (some false)) else (some false))))) = some r := H
             have A44 := Aside0.mk A440
             clear A440
             replace H := Option.bind_eq_some_iff.mp H
             obtain ⟨⟨t307, t308⟩, A450, H⟩ := H
             replace H : ((tariff_Change.f kj7 l0_0 a3).bind fun bt309 => ((tariff_Change.f kj7 y301 a3).bind fun bt312 => (if t305 = t307 then (if t306 = t308 then (if bt309.1 = bt312.1 then (if (bt309.2.1 == bt312.2.1) = true then (some (bt309.2.2 == bt312.2.2)) else (some false)) else (some false)) else (some false)) else (some false)))) = some r := H
             have A45 := Aside0.mk A450
             clear A450
             replace H := Option.bind_eq_some_iff.mp H
             obtain ⟨⟨t309, t310, t311⟩, A460, H⟩ := H
             replace H : ((tariff_Change.f kj7 y301 a3).bind fun bt312 => (if t305 = t307 then (if t306 = t308 then (if t309 = bt312.1 then (if (t310 == bt312.2.1) = true then (some (t311 == bt312.2.2)) else (some false)) else (some false)) else (some false)) else (some false))) = some r := H
             have A46 := Aside0.mk A460
             clear A460
             replace H := Option.bind_eq_some_iff.mp H
             obtain ⟨⟨t312, t313, t314⟩, A470, H⟩ := H
             replace H : (if t305 = t307 then (if t306 = t308 then (if t309 = t312 then (if (t310 == t313) = true then (some (t311 == t314)) else (some false)) else (some false)) else (some false)) else (some false)) = some r := H
             have A47 := Aside0.mk A470
             clear A470
             by_cases c48 : t305 = t307
             ·rw [if_pos c48] at H
              have c48b0 : (t305 == t307) = true := beq_iff_eq.mpr c48
              have c48b1 : (t305 != t307) = false := bne_eq_false_iff_eq.mpr c48
              clear c48
              by_cases c49 : t306 = t308
              ·rw [if_pos c49] at H
               have c49b0 : (t306 == t308) = true := beq_iff_eq.mpr c49
               have c49b1 : (t306 != t308) = false := bne_eq_false_iff_eq.mpr c49
               clear c49
               by_cases c50 : t309 = t312
               ·rw [if_pos c50] at H
                have c50b0 : (t309 == t312) = true := beq_iff_eq.mpr c50
                have c50b1 : (t309 != t312) = false := bne_eq_false_iff_eq.mpr c50
                clear c50
                by_cases c51 : (t310 == t313) = true
                ·rw [if_pos c51] at H
                 have c51b0 : (t310 == t313) = true := c51
                 (try (have c51b1 : decide (t310 = t313) = true := by simpa using c51))
                 (try (have c51b2 : (t310 == t313) = true := by simpa using c51))
                 clear c51
                 obtain rfl := Option.some.inj H
                 have hcz52_0 : wc.cell? ⟨gb281, 0, none⟩ = some (.slice A0_0 l0_0.length c0_0) := (blk_cell BK281.out 0).trans rfl
                 have hfz52_0 := blk_frozen BK281.out 0
                 have q53 : ((ji32) : Int) ≤ ((l0_0.length : Int) : Int) := of_decide_eq_true (by first | (with_reducible assumption) | assumption)
                 obtain ⟨i053, hi053, _, hsz53, _⟩ := info_parts info42
                 have hroom53 : l0_0.length ≤ c0_0 := HC0_0.out
                 have hC53 : Kd.C k42 _ A0_0 l0_0.length l0_0 := HR0_0.out
                 have hcut53 := cut_to (P := Try.prog) 22 42 .i64 Try.underlying22 hi053 A0_0 l0_0.length c0_0 (ji32) (of_decide_eq_true (by first | (with_reducible assumption) | assumption)) q53 hroom53
                 have hr53 := Kd.C_take (m := ((ji32) : Int).toNat) hC53 (by omega)
                 have hy53 : y285.length = ((ji32) : Int).toNat := (by rw [Ny285.out, List.length_take]; omega)
                 rw [← Ny285.out] at hr53
                 rw [← hy53] at hcut53
                 have HR288 := Aside0.mk hr53
                 have HC288 := Aside0.mk (show y285.length ≤ c0_0 from by omega)
                 clear hr53 hC53 hroom53 hi053 hsz53
                 have KY53 := Aside0.mk hy53
                 clear hy53
                 replace q53 := eq_true q53
                 try go_wp2_with (first | ((with_reducible refine gate_builtin (b := .append) (xs := #[.const (Value.slice none 0 0), .tmp 47]) rfl ?_); (try (refine gate_guard (by rfl) ?_; dsimp only)); at_builtin; refine Kd.R_append_rows k42 (w0 := w) w.heap.size rfl (.const (Value.slice none 0 0)) (.tmp 47) 22 42 (.agg #[(.int .i64 0), (.int .i64 0)]) 16 rfl Try.underlying22 info42 rfl (by decide) (by omega) (.slice none 0 0) ([] : List (S42)) y285 _ _ _ (fun _ => True) (fun _ => False) rfl rfl ?aO ?aR (fun _ _ h => h) (fun _ h => h.elim) ?aF ?aB ?aS ?aL ?_; (case aR => repeat (first | exact (Kd.C_below HR288.out HB.out) | (with_reducible refine Kd.C_alloc ?_ _) | (with_reducible refine Kd.C_drewN ?_ _) | (with_reducible refine Kd.C_drew ?_))); (case aB => exact (by repeat (first | (with_reducible first | exact HB.out | apply below_alloc | apply pw_below_drewN | apply below_drew1 | refine below_set ?_ GE281.out) | exact HB.out))); (case aF => exact (fun _ _ => trivial)); (case aO => exact ((Kd.R_nil _ _ _ _ (fun _ => True)))); (case aS => exact (below_size (by repeat (first | (with_reducible first | exact HB.out | apply below_alloc | apply pw_below_drewN | apply below_drew1 | refine below_set ?_ GE281.out) | exact HB.out)))); (case aL => have := LMc35.out; omega); intro v290 w54 ho hb hg hat; rw [← Ny289.out] at ho; have n0_ := Aside0.mk (blk_grown (g := gb281) (o := .cells #[.slice A0_0 l0_0.length c0_0] 24 (0, 0)) (by (with_reducible repeat (first | refine blk_drewN ?_ _ | refine blk_drew ?_ | refine blk_alloc ?_ _)); exact BK281.out) hg (by simp [Value.ownBlock])); have n1_ := Aside0.mk (hb); have n2_ := Aside0.mk (ho); clear BK281; clear HB; have BK281 := n0_; have HB := n1_; have HO291 := n2_; clear n0_ n1_ n2_; clear ho hb hg hat; obtain ⟨Ao55, co55, eo55⟩ := Kd.R_slice HO291.out; subst eo55) | ((with_reducible refine gate_dst (N := 11) rfl ?_); (try (refine gate_guard (by rfl) ?_; dsimp only)); refine box_event ?hg (N := 11) ?hd (cs := #[.slice none 0 0]) (t := 24) ?hr ?_; (case hd => rfl); (case hg => rfl); (case hr => first | (go_simp; done) | (go_simp; rfl)); intro gb292 hg w56 hbox hb; have n0_ := Aside0.mk (Kd.R_below (by (with_reducible repeat (first | apply Kd.R_alloc | apply Kd.R_drewN | apply Kd.R_drew)); exact HO291.out) hb); have n1_ := Aside0.mk (blk_below (g := gb281) (o := .cells #[.slice A0_0 l0_0.length c0_0] 24 (0, 0)) (by (with_reducible repeat (first | refine blk_drewN ?_ _ | refine blk_drew ?_ | refine blk_alloc ?_ _)); exact BK281.out) hb); have n2_ := Aside0.mk (below_step (by repeat (first | (with_reducible first | exact HB.out | apply below_alloc | apply pw_below_drewN | apply below_drew1 | refine below_set ?_ GE281.out) | exact HB.out)) hb); have n3_ := Aside0.mk (hbox); have n4_ := Aside0.mk ((by rw [hg]; exact (below_size (by repeat (first | (with_reducible first | exact HB.out | apply below_alloc | apply pw_below_drewN | apply below_drew1 | refine below_set ?_ GE281.out) | exact HB.out))) : w.heap.size ≤ gb292)); have n5_ := Aside0.mk ((by rw [hg]; exact (below_size (by repeat (first | (with_reducible first | exact HB.out | apply below_alloc | apply pw_below_drewN | apply below_drew1 | refine below_set ?_ GE281.out) | exact HB.out))) : w.heap.size ≤ gb292)); have n6_ := Aside0.mk ((by rw [hg]; exact Nat.ne_of_lt (blk_lt (g := gb281) (o := .cells #[.slice A0_0 l0_0.length c0_0] 24 (0, 0)) (by (with_reducible repeat (first | refine blk_drewN ?_ _ | refine blk_drew ?_ | refine blk_alloc ?_ _)); exact BK281.out)) : gb281 ≠ gb292)); have n7_ := Aside0.mk ((by rw [hg]; exact Nat.ne_of_gt (blk_lt (g := gb281) (o := .cells #[.slice A0_0 l0_0.length c0_0] 24 (0, 0)) (by (with_reducible repeat (first | refine blk_drewN ?_ _ | refine blk_drew ?_ | refine blk_alloc ?_ _)); exact BK281.out)) : gb292 ≠ gb281)); clear HO291; clear BK281; clear HB; have HO291 := n0_; have BK281 := n1_; have HB := n2_; have BK292 := n3_; have GW292 := n4_; have GE292 := n5_; have NB281_292 := n6_; have NB292_281 := n7_; clear n0_ n1_ n2_ n3_ n4_ n5_ n6_ n7_; clear hb hbox hg; have hnb57 := NB292_281.out; have hnc57 := NB281_292.out; have hcz58_0 : w56.cell? ⟨gb292, 0, none⟩ = some (.slice none 0 0) := (blk_cell BK292.out 0).trans rfl; have hfz58_0 := blk_frozen BK292.out 0))
                 have n0_ : Aside0 (Kd.R k42 42 (w56.setCell ⟨gb292, 0, none⟩ (.slice Ao55 y289.length co55)) w.heap.size (fun _ => True) (.slice Ao55 y289.length co55) y289) := ⟨by (with_reducible repeat (first | apply Kd.R_alloc | apply Kd.R_drewN | apply Kd.R_drew)); exact Kd.R_mono (Kd.R_far (p := ⟨gb292, 0, none⟩) (Kd.R_types HO291.out BK292.out (by decide)) (fun _ hk => hk.2) (.slice Ao55 y289.length co55)) (fun _ hk => trivial)⟩
                 have n1_ : Aside0 ((w56.setCell ⟨gb292, 0, none⟩ (.slice Ao55 y289.length co55)).heap[gb281]? = some (.cells #[.slice A0_0 l0_0.length c0_0] 24 (0, 0))) := ⟨by (with_reducible repeat (first | refine blk_drewN ?_ _ | refine blk_drew ?_ | refine blk_alloc ?_ _)); refine blk_far ?_ NB281_292.out _; (with_reducible repeat (first | refine blk_drewN ?_ _ | refine blk_drew ?_ | refine blk_alloc ?_ _)); exact BK281.out⟩
                 have n2_ : Aside0 ((w56.setCell ⟨gb292, 0, none⟩ (.slice Ao55 y289.length co55)).heap[gb292]? = some (.cells #[.slice Ao55 y289.length co55] 24 (0, 0))) := ⟨by (with_reducible repeat (first | refine blk_drewN ?_ _ | refine blk_drew ?_ | refine blk_alloc ?_ _)); refine blk_put (cs := #[.slice none 0 0]) ?_ 0 _ rfl; (with_reducible repeat (first | refine blk_drewN ?_ _ | refine blk_drew ?_ | refine blk_alloc ?_ _)); exact BK292.out⟩
                 have n3_ : Aside0 (Below w.heap.size w (w56.setCell ⟨gb292, 0, none⟩ (.slice Ao55 y289.length co55))) := ⟨by repeat (first | (with_reducible first | exact HB.out | apply below_alloc | apply pw_below_drewN | apply below_drew1 | refine below_set ?_ GE281.out | refine below_set ?_ GE292.out) | exact HB.out)⟩
                 (try clear HO291)
                 (try clear BK281)
                 (try clear BK292)
                 (try clear HB)
                 generalize (w56.setCell ⟨gb292, 0, none⟩ (.slice Ao55 y289.length co55)) = w59 at n0_ n1_ n2_ n3_ ⊢
                 have HO291 := n0_
                 have BK281 := n1_
                 have BK292 := n2_
                 have HB := n3_
                 clear n0_ n1_ n2_ n3_
                 have n0_ := Aside0.mk (Kd.R_drew HO291.out)
                 have n1_ := Aside0.mk (blk_drew BK281.out)
                 have n2_ := Aside0.mk (blk_drew BK292.out)
                 have n3_ := Aside0.mk (below_drew1 HB.out)
                 clear HO291
                 clear BK281
                 clear BK292
                 clear HB
                 have HO291 := n0_
                 have BK281 := n1_
                 have BK292 := n2_
                 have HB := n3_
                 clear n0_ n1_ n2_ n3_
                 have p293 : 0 ≤ (a1 : Int) := of_decide_eq_true (by first | (with_reducible assumption) | assumption)
                 have q293 : a1 < (l0_0.length : Int) := of_decide_eq_true (by first | (with_reducible assumption) | assumption)
                 obtain ⟨ad293, e293, hx293_0, hx293_1⟩ := at_T42 HR0_0.out a1 p293 q293
                 have hw293_1 := hx293_1
                 have hw293_0 := hx293_0
                 cases e293
                 replace hx293_0 := (HB.out.cell (World.block_lt_of_cell? w _ hx293_0)).trans hx293_0
                 replace hx293_1 := (HB.out.cell (World.block_lt_of_cell? w _ hx293_1)).trans hx293_1
                 replace p293 := eq_true p293
                 replace q293 := eq_true q293
                 refine start_ (n := 14) (S := fun w' => w'.cell? ⟨gb292, 0, none⟩ = some (.slice Ao55 y289.length co55) ∧ w'.cell? ⟨gb281, 0, none⟩ = some (.slice (some ad293) l0_0.length c0_0) ∧ w'.cell? (ad293.add ((a1).toNat * 2)) = some (.int .i64 ((rd_T42 l0_0 a1).f0)) ∧ w'.cell? ⟨(ad293.add ((a1).toNat * 2)).block, (ad293.add ((a1).toNat * 2)).off + 1, none⟩ = some (.int .i64 ((rd_T42 l0_0 a1).f1))) (ds := [13]) #[false, false, false, false, false, false, false, false, false, false, false, false, false, false] (by kernel_rfl) rfl rfl ⟨(blk_cell BK292.out 0).trans rfl, (blk_cell BK281.out 0).trans rfl, ((HB.out.cell (World.block_lt_of_cell? w _ hw293_0)).trans hw293_0), ((HB.out.cell (World.block_lt_of_cell? w _ hw293_1)).trans hw293_1)⟩ (fun hHeld => ?_); refine with_tabW crossbarlaw26_TariffRedundantBand.tab6 crossbarlaw26_TariffRedundantBand.bits6 (fun HT_ HW_ => ?_)
                 generalize w59.drew = w60 at HO291 BK281 BK292 HB hx293_0 hx293_1 hHeld ⊢
                 refine pure_ (i := 0) (N := some 50) (v := ?_) (a' := ?_) #[true, false, false, false, false, false, false, false, false, false, false, false, false, false] rfl rfl (any_of HT_.out (by kernel_rfl)) (fun _ _ _ h => h) (Or.inl ⟨by rfl, ?_⟩) ?_ ?_
                 rotate_left
                 ·intro w'
                  go_simp
                  with_reducible rfl
                 rotate_left
                 ·simp only [Act.put, List.setIfInBounds_toArray, List.set_cons_zero, List.set_cons_succ, i64_w, i32_w]
                  rfl
                 refine pure_ (i := 2) (N := some 52) (v := ?_) (a' := ?_) #[true, false, true, false, false, false, false, false, false, false, false, false, false, false] rfl rfl (any_of HT_.out (by kernel_rfl)) (fun _ _ _ h => h) (Or.inl ⟨by rfl, ?_⟩) ?_ ?_
                 rotate_left
                 ·intro w'
                  go_simp
                  with_reducible rfl
                 rotate_left
                 ·simp only [Act.put, List.setIfInBounds_toArray, List.set_cons_zero, List.set_cons_succ, i64_w, i32_w]
                  rfl
                 refine pure_ (i := 3) (N := some 53) (v := ?_) (a' := ?_) #[true, false, true, true, false, false, false, false, false, false, false, false, false, false] rfl rfl (any_of HT_.out (by kernel_rfl)) (fun _ _ _ h => h) (Or.inl ⟨by rfl, ?_⟩) ?_ ?_
                 rotate_left
                 ·intro w'
                  go_simp
                  with_reducible rfl
                 rotate_left
                 ·simp only [Act.put, List.setIfInBounds_toArray, List.set_cons_zero, List.set_cons_succ, i64_w, i32_w]
                  rfl
                 refine pure_ (i := 5) (N := some 55) (v := ?_) (a' := ?_) #[true, false, true, true, false, true, false, false, false, false, false, false, false, false] rfl rfl (any_of HT_.out (by kernel_rfl)) (fun _ _ _ h => h) (Or.inl ⟨by rfl, ?_⟩) ?_ ?_
                 rotate_left
                 ·intro w'
                  go_simp
                  with_reducible rfl
                 rotate_left
                 ·simp only [Act.put, List.setIfInBounds_toArray, List.set_cons_zero, List.set_cons_succ, i64_w, i32_w]
                  rfl
                 refine take_ (i := 1) (N := some 51) (v := ?_) (a' := ?_) #[true, true, true, true, false, true, false, false, false, false, false, false, false, false] rfl rfl (take_ofW HT_.out HW_.out (by kernel_rfl)) (fun _ _ _ h => h) (Or.inl ⟨by rfl, ?_⟩) hHeld ?_ ?_
                 rotate_left
                 ·rintro w' ⟨s0, s1, s2, s3⟩
                  go_simp
                  with_reducible rfl
                 rotate_left
                 ·simp only [Act.put, List.setIfInBounds_toArray, List.set_cons_zero, List.set_cons_succ, i64_w, i32_w]
                  rfl
                 refine take_ (i := 4) (N := some 54) (v := ?_) (a' := ?_) #[true, true, true, true, true, true, false, false, false, false, false, false, false, false] rfl rfl (take_ofW HT_.out HW_.out (by kernel_rfl)) (fun _ _ _ h => h) (Or.inl ⟨by rfl, ?_⟩) hHeld ?_ ?_
                 rotate_left
                 ·rintro w' ⟨s0, s1, s2, s3⟩
                  go_simp
                  with_reducible rfl
                 rotate_left
                 ·simp only [Act.put, List.setIfInBounds_toArray, List.set_cons_zero, List.set_cons_succ, i64_w, i32_w]
                  rfl
                 refine pure_ (i := 6) (N := some 56) (v := ?_) (a' := ?_) #[true, true, true, true, true, true, true, false, false, false, false, false, false, false] rfl rfl (any_of HT_.out (by kernel_rfl)) (fun _ _ _ h => h) (Or.inl ⟨by rfl, ?_⟩) ?_ ?_
                 rotate_left
                 ·intro w'
                  go_simp
                  with_reducible rfl
                 rotate_left
                 ·simp only [Act.put, List.setIfInBounds_toArray, List.set_cons_zero, List.set_cons_succ, i64_w, i32_w]
                  rfl
                 refine pure_ (i := 7) (N := some 57) (v := ?_) (a' := ?_) #[true, true, true, true, true, true, true, true, false, false, false, false, false, false] rfl rfl (any_of HT_.out (by kernel_rfl)) (fun _ _ _ h => h) (Or.inl ⟨by rfl, ?_⟩) ?_ ?_
                 rotate_left
                 ·intro w'
                  go_simp
                  with_reducible rfl
                 rotate_left
                 ·simp only [Act.put, List.setIfInBounds_toArray, List.set_cons_zero, List.set_cons_succ, i64_w, i32_w]
                  rfl
                 refine take_ (i := 8) (N := some 58) (v := ?_) (a' := ?_) #[true, true, true, true, true, true, true, true, true, false, false, false, false, false] rfl rfl (take_ofW HT_.out HW_.out (by kernel_rfl)) (fun _ _ _ h => h) (Or.inl ⟨by rfl, ?_⟩) hHeld ?_ ?_
                 rotate_left
                 ·rintro w' ⟨s0, s1, s2, s3⟩
                  go_simp
                  with_reducible rfl
                 rotate_left
                 ·simp only [Act.put, List.setIfInBounds_toArray, List.set_cons_zero, List.set_cons_succ, i64_w, i32_w]
                  rfl
                 refine pure_ (i := 9) (N := some 59) (v := ?_) (a' := ?_) #[true, true, true, true, true, true, true, true, true, true, false, false, false, false] rfl rfl (any_of HT_.out (by kernel_rfl)) (fun _ _ _ h => h) (Or.inl ⟨by rfl, ?_⟩) ?_ ?_
                 rotate_left
                 ·intro w'
                  go_simp
                  with_reducible rfl
                 rotate_left
                 ·simp only [Act.put, List.setIfInBounds_toArray, List.set_cons_zero, List.set_cons_succ, i64_w, i32_w]
                  rfl
                 refine one_ (i := 10) (N := some 60) #[true, true, true, true, true, true, true, true, true, true, true, false, false, false] rfl rfl (one_of HT_.out (by kernel_rfl)) (by decide) (fun K hK => ?_)
                 refine value_ (w1 := ?_) (v := ?_) (by rfl) rfl ?_ ?_
                 rotate_left 2
                 ·go_simp
                  constructor
                  ·rfl
                  ·rfl
                 refine hK.out _ _ ⟨(blk_cell (blk_alloc BK292.out _) 0).trans rfl, (blk_cell (blk_alloc BK281.out _) 0).trans rfl, (World.cell?_alloc_lt _ _ _ (World.block_lt_of_cell? _ _ (((HB.out.cell (World.block_lt_of_cell? w _ hw293_0)).trans hw293_0)))).trans (((HB.out.cell (World.block_lt_of_cell? w _ hw293_0)).trans hw293_0)), (World.cell?_alloc_lt _ _ _ (World.block_lt_of_cell? _ _ (((HB.out.cell (World.block_lt_of_cell? w _ hw293_1)).trans hw293_1)))).trans (((HB.out.cell (World.block_lt_of_cell? w _ hw293_1)).trans hw293_1))⟩ (fun hHeld => ?_)
                 clear hK K
                 refine norm_ (a' := ?_) ?_ ?_
                 rotate_left
                 ·show Act.put _ (some 60) _ = _
                  simp only [Act.put, List.setIfInBounds_toArray, List.set_cons_zero, List.set_cons_succ, i64_w, i32_w]
                  rfl
                 refine one_ (i := 11) (N := some 61) #[true, true, true, true, true, true, true, true, true, true, true, true, false, false] rfl rfl (one_of HT_.out (by kernel_rfl)) (by decide) (fun K hK => ?_)
                 refine Kd.R_append_step k42 (w0 := w) w.heap.size (by rfl) (.tmp 51) (.tmp 60) 22 42 (.agg #[(.int .i64 0), (.int .i64 0)]) 16 rfl Try.underlying22 info42 rfl (by decide) (by omega) (.slice Ao55 y289.length co55) y289 (⟨a2, (rd_T42 l0_0 a1).f1⟩ : S42) [.int .i64 a2, .int .i64 ((rd_T42 l0_0 a1).f1)] (fun _ => True) (fun _ => False) rfl rfl ?aP (fun _ hk => hk.elim) ?aF ?aO ?aB ?aS ?aL ?_
                 (case aP => exact k42_mkM _ _ _ (⟨a2, (rd_T42 l0_0 a1).f1⟩ : S42))
                 (case aB => exact (by repeat (first | (with_reducible first | exact HB.out | apply below_alloc | apply pw_below_drewN | apply below_drew1 | refine below_set ?_ GE281.out | refine below_set ?_ GE292.out) | exact HB.out)))
                 (case aF => exact (fun _ _ => trivial))
                 (case aO => exact (by (with_reducible repeat (first | apply Kd.R_alloc | apply Kd.R_drewN | apply Kd.R_drew)); exact HO291.out))
                 (case aS => exact (below_size (by repeat (first | (with_reducible first | exact HB.out | apply below_alloc | apply pw_below_drewN | apply below_drew1 | refine below_set ?_ GE281.out | refine below_set ?_ GE292.out) | exact HB.out))))
                 (case aL => have := LMc38.out; omega)
                 intro v295 w61 ho hb hg hat
                 rw [← Ny294.out] at ho
                 have n0_ := Aside0.mk (blk_grown (g := gb281) (o := .cells #[.slice (some ad293) l0_0.length c0_0] 24 (0, 0)) (by (with_reducible repeat (first | refine blk_drewN ?_ _ | refine blk_drew ?_ | refine blk_alloc ?_ _)); exact BK281.out) hg (Kd.R_ne HO291.out BK281.out (by decide)))
                 have n1_ := Aside0.mk (blk_grown (g := gb292) (o := .cells #[.slice Ao55 y289.length co55] 24 (0, 0)) (by (with_reducible repeat (first | refine blk_drewN ?_ _ | refine blk_drew ?_ | refine blk_alloc ?_ _)); exact BK292.out) hg (Kd.R_ne HO291.out BK292.out (by decide)))
                 have n2_ := Aside0.mk (hb)
                 have n3_ := Aside0.mk (ho)
                 clear BK281
                 clear BK292
                 clear HB
                 clear HO291
                 have BK281 := n0_
                 have BK292 := n1_
                 have HB := n2_
                 have HO296 := n3_
                 clear n0_ n1_ n2_ n3_
                 clear ho hb hg hat
                 obtain ⟨Ao62, co62, eo62⟩ := Kd.R_slice HO296.out
                 (first | subst eo62 | (injection eo62 with f1_ f2_ f3_; have f4_ := f1_.symm; have f5_ := f3_.symm; clear f1_ f2_ f3_; subst f4_; subst f5_))
                 refine hK.out _ _ ⟨(blk_cell BK292.out 0).trans rfl, (blk_cell BK281.out 0).trans rfl, ((HB.out.cell (World.block_lt_of_cell? w _ hw293_0)).trans hw293_0), ((HB.out.cell (World.block_lt_of_cell? w _ hw293_1)).trans hw293_1)⟩ (fun hHeld => ?_)
                 clear hK K
                 refine norm_ (a' := ?_) ?_ ?_
                 rotate_left
                 ·show Act.put _ (some 61) _ = _
                  simp only [Act.put, List.setIfInBounds_toArray, List.set_cons_zero, List.set_cons_succ, i64_w, i32_w]
                  rfl
                 refine pure_ (i := 12) (N := some 62) (v := ?_) (a' := ?_) #[true, true, true, true, true, true, true, true, true, true, true, true, true, false] rfl rfl (any_of HT_.out (by kernel_rfl)) (fun _ _ _ h => h) (Or.inl ⟨by rfl, ?_⟩) ?_ ?_
                 rotate_left
                 ·intro w'
                  go_simp
                  with_reducible rfl
                 rotate_left
                 ·simp only [Act.put, List.setIfInBounds_toArray, List.set_cons_zero, List.set_cons_succ, i64_w, i32_w]
                  rfl
                 refine last_ (i := 13) (N := none) #[true, true, true, true, true, true, true, true, true, true, true, true, true, true] rfl rfl (one_of HT_.out (by kernel_rfl)) (by decide) (fun K hK => ?_)
                 have hs63 : w61.cell? ⟨gb292, 0, none⟩ = some (.slice Ao55 y289.length co55) := (blk_cell BK292.out 0).trans rfl
                 have hfs63 := blk_frozen BK292.out 0
                 have hns63_0 := NB281_292.out
                 have hms63_0 := NB292_281.out
                 refine skip_ (w1 := ?_) (by rfl) rfl ?_ ?_
                 rotate_left
                 ·go_simp
                  rfl
                 refine hK.out _ _ ?_
                 clear hK K
                 refine done_ (done_of HT_.out (by kernel_rfl)) ?_
                 try go_wp2
                 have n0_ : Aside0 (Kd.R k42 42 (w61.setCell ⟨gb292, 0, none⟩ (.slice Ao62 y294.length co62)) w.heap.size (fun _ => True) (.slice Ao62 y294.length co62) y294) := ⟨by (with_reducible repeat (first | apply Kd.R_alloc | apply Kd.R_drewN | apply Kd.R_drew)); exact Kd.R_mono (Kd.R_far (p := ⟨gb292, 0, none⟩) (Kd.R_types HO296.out BK292.out (by decide)) (fun _ hk => hk.2) (.slice Ao62 y294.length co62)) (fun _ hk => trivial)⟩
                 have n1_ : Aside0 ((w61.setCell ⟨gb292, 0, none⟩ (.slice Ao62 y294.length co62)).heap[gb281]? = some (.cells #[.slice (some ad293) l0_0.length c0_0] 24 (0, 0))) := ⟨by (with_reducible repeat (first | refine blk_drewN ?_ _ | refine blk_drew ?_ | refine blk_alloc ?_ _)); refine blk_far ?_ NB281_292.out _; (with_reducible repeat (first | refine blk_drewN ?_ _ | refine blk_drew ?_ | refine blk_alloc ?_ _)); exact BK281.out⟩
                 have n2_ : Aside0 ((w61.setCell ⟨gb292, 0, none⟩ (.slice Ao62 y294.length co62)).heap[gb292]? = some (.cells #[.slice Ao62 y294.length co62] 24 (0, 0))) := ⟨by (with_reducible repeat (first | refine blk_drewN ?_ _ | refine blk_drew ?_ | refine blk_alloc ?_ _)); refine blk_put (cs := #[.slice Ao55 y289.length co55]) ?_ 0 _ rfl; (with_reducible repeat (first | refine blk_drewN ?_ _ | refine blk_drew ?_ | refine blk_alloc ?_ _)); exact BK292.out⟩
                 have n3_ : Aside0 (Below w.heap.size w (w61.setCell ⟨gb292, 0, none⟩ (.slice Ao62 y294.length co62))) := ⟨by repeat (first | (with_reducible first | exact HB.out | apply below_alloc | apply pw_below_drewN | apply below_drew1 | refine below_set ?_ GE281.out | refine below_set ?_ GE292.out) | exact HB.out)⟩
                 (try clear HO296)
                 (try clear BK281)
                 (try clear BK292)
                 (try clear HB)
                 generalize (w61.setCell ⟨gb292, 0, none⟩ (.slice Ao62 y294.length co62)) = w64 at n0_ n1_ n2_ n3_ ⊢
                 have HO296 := n0_
                 have BK281 := n1_
                 have BK292 := n2_
                 have HB := n3_
                 clear n0_ n1_ n2_ n3_
                 have n0_ := Aside0.mk (Kd.R_drew HO296.out)
                 have n1_ := Aside0.mk (blk_drew BK281.out)
                 have n2_ := Aside0.mk (blk_drew BK292.out)
                 have n3_ := Aside0.mk (below_drew1 HB.out)
                 clear HO296
                 clear BK281
                 clear BK292
                 clear HB
                 have HO296 := n0_
                 have BK281 := n1_
                 have BK292 := n2_
                 have HB := n3_
                 clear n0_ n1_ n2_ n3_
                 have q66 : ((ji32) : Int) ≤ ((l0_0.length : Int) : Int) := of_decide_eq_true (by first | (with_reducible assumption) | assumption)
                 obtain ⟨i066, hi066, _, hsz66, _⟩ := info_parts info42
                 have hroom66 : l0_0.length ≤ c0_0 := HC0_0.out
                 have hC66 : Kd.C k42 _ (some ad293) l0_0.length l0_0 := HR0_0.out
                 have q066 : (0 : Int) ≤ ((ji32) : Int) := of_decide_eq_true (by first | (with_reducible assumption) | assumption)
                 have hcut66 := cut_from (P := Try.prog) 22 42 .i64 Try.underlying22 hi066 2 hsz66 (some ad293) l0_0.length c0_0 (ji32) q066 q66
                 have hr66 := Kd.C_drop (m := ((ji32) : Int).toNat) (c := c0_0) hC66 (by omega) hroom66
                 obtain ⟨A66, hA66⟩ : ∃ A1, A1 = (if c0_0 = ((ji32) : Int).toNat then (some ad293) else ((some ad293) : Option Addr).map (·.add (((ji32) : Int).toNat * 2))) := ⟨_, rfl⟩
                 obtain ⟨c66, hc66⟩ : ∃ c1, c1 = c0_0 - ((ji32) : Int).toNat := ⟨_, rfl⟩
                 have hy66 : y297.length = l0_0.length - ((ji32) : Int).toNat := (by rw [Ny297.out, List.length_drop] <;> omega)
                 rw [show (l0_0).drop ((ji32) : Int).toNat = y297 from Ny297.out.symm] at hr66
                 replace hr66 : Kd.C k42 _ A66 y297.length y297 := (by rw [hA66]; exact hr66)
                 rw [← hy66, ← hA66, ← hc66] at hcut66
                 have HR300 := Aside0.mk hr66
                 have HC300 := Aside0.mk (show y297.length ≤ c66 from by rw [hy66, hc66]; exact Nat.sub_le_sub_right hroom66 _)
                 clear hr66 hC66 hroom66 hi066 hsz66 hc66
                 have KY66 := Aside0.mk hy66
                 have KA66 := Aside0.mk hA66
                 clear hy66 hA66
                 replace q66 := eq_true q66
                 refine start_ (n := 10) (S := fun w' => w'.cell? ⟨gb292, 0, none⟩ = some (.slice Ao62 y294.length co62) ∧ w'.cell? ⟨gb281, 0, none⟩ = some (.slice (some ad293) l0_0.length c0_0)) (ds := [9]) #[false, false, false, false, false, false, false, false, false, false] (by kernel_rfl) rfl rfl ⟨(blk_cell BK292.out 0).trans rfl, (blk_cell BK281.out 0).trans rfl⟩ (fun hHeld => ?_); refine with_tabW crossbarlaw26_TariffRedundantBand.tab7 crossbarlaw26_TariffRedundantBand.bits7 (fun HT_ HW_ => ?_)
                 generalize w64.drew = w65 at HO296 BK281 BK292 HB HR300 hHeld ⊢
                 refine pure_ (i := 0) (N := some 63) (v := ?_) (a' := ?_) #[true, false, false, false, false, false, false, false, false, false] rfl rfl (any_of HT_.out (by kernel_rfl)) (fun _ _ _ h => h) (Or.inl ⟨by rfl, ?_⟩) ?_ ?_
                 rotate_left
                 ·intro w'
                  go_simp
                  with_reducible rfl
                 rotate_left
                 ·simp only [Act.put, List.setIfInBounds_toArray, List.set_cons_zero, List.set_cons_succ, i64_w, i32_w]
                  rfl
                 refine pure_ (i := 2) (N := some 65) (v := ?_) (a' := ?_) #[true, false, true, false, false, false, false, false, false, false] rfl rfl (any_of HT_.out (by kernel_rfl)) (fun _ _ _ h => h) (Or.inl ⟨by rfl, ?_⟩) ?_ ?_
                 rotate_left
                 ·intro w'
                  go_simp
                  with_reducible rfl
                 rotate_left
                 ·simp only [Act.put, List.setIfInBounds_toArray, List.set_cons_zero, List.set_cons_succ, i64_w, i32_w]
                  rfl
                 refine pure_ (i := 4) (N := some 67) (v := ?_) (a' := ?_) #[true, false, true, false, true, false, false, false, false, false] rfl rfl (any_of HT_.out (by kernel_rfl)) (fun _ _ _ h => h) (Or.inl ⟨by rfl, ?_⟩) ?_ ?_
                 rotate_left
                 ·intro w'
                  go_simp
                  with_reducible rfl
                 rotate_left
                 ·simp only [Act.put, List.setIfInBounds_toArray, List.set_cons_zero, List.set_cons_succ, i64_w, i32_w]
                  rfl
                 refine pure_ (i := 5) (N := some 68) (v := ?_) (a' := ?_) #[true, false, true, false, true, true, false, false, false, false] rfl rfl (any_of HT_.out (by kernel_rfl)) (fun _ _ _ h => h) (Or.inl ⟨by rfl, ?_⟩) ?_ ?_
                 rotate_left
                 ·intro w'
                  go_simp
                  with_reducible rfl
                 rotate_left
                 ·simp only [Act.put, List.setIfInBounds_toArray, List.set_cons_zero, List.set_cons_succ, i64_w, i32_w]
                  rfl
                 refine take_ (i := 1) (N := some 64) (v := ?_) (a' := ?_) #[true, true, true, false, true, true, false, false, false, false] rfl rfl (take_ofW HT_.out HW_.out (by kernel_rfl)) (fun _ _ _ h => h) (Or.inl ⟨by rfl, ?_⟩) hHeld ?_ ?_
                 rotate_left
                 ·rintro w' ⟨s0, s1⟩
                  go_simp
                  with_reducible rfl
                 rotate_left
                 ·simp only [Act.put, List.setIfInBounds_toArray, List.set_cons_zero, List.set_cons_succ, i64_w, i32_w]
                  rfl
                 refine take_ (i := 3) (N := some 66) (v := ?_) (a' := ?_) #[true, true, true, true, true, true, false, false, false, false] rfl rfl (take_ofW HT_.out HW_.out (by kernel_rfl)) (fun _ _ _ h => h) (Or.inl ⟨by rfl, ?_⟩) hHeld ?_ ?_
                 rotate_left
                 ·rintro w' ⟨s0, s1⟩
                  go_simp
                  with_reducible rfl
                 rotate_left
                 ·simp only [Act.put, List.setIfInBounds_toArray, List.set_cons_zero, List.set_cons_succ, i64_w, i32_w]
                  rfl
                 refine pure_ (i := 6) (N := some 69) (v := ?_) (a' := ?_) #[true, true, true, true, true, true, true, false, false, false] rfl rfl (any_of HT_.out (by kernel_rfl)) (fun _ _ _ h => h) (Or.inl ⟨by rfl, ?_⟩) ?_ ?_
                 rotate_left
                 ·intro w'
                  go_simp
                  with_reducible rfl
                 rotate_left
                 ·simp only [Act.put, List.setIfInBounds_toArray, List.set_cons_zero, List.set_cons_succ, i64_w, i32_w]
                  rfl
                 refine one_ (i := 7) (N := some 70) #[true, true, true, true, true, true, true, true, false, false] rfl rfl (one_of HT_.out (by kernel_rfl)) (by decide) (fun K hK => ?_)
                 refine Kd.R_append_rows_step k42 (w0 := w) w.heap.size (by rfl) (.tmp 64) (.tmp 69) 22 42 (.agg #[(.int .i64 0), (.int .i64 0)]) 16 rfl Try.underlying22 info42 rfl (by decide) (by omega) (.slice Ao62 y294.length co62) y294 y297 _ _ _ (fun _ => True) (fun _ => False) rfl rfl ?aO ?aR (fun _ _ h => h) (fun _ h => h.elim) ?aF ?aB ?aS ?aL ?_
                 (case aR => repeat (first | exact (Kd.C_below HR300.out HB.out) | (with_reducible refine Kd.C_alloc ?_ _) | (with_reducible refine Kd.C_drewN ?_ _) | (with_reducible refine Kd.C_drew ?_)))
                 (case aB => exact (by repeat (first | (with_reducible first | exact HB.out | apply below_alloc | apply pw_below_drewN | apply below_drew1 | refine below_set ?_ GE281.out | refine below_set ?_ GE292.out) | exact HB.out)))
                 (case aF => exact (fun _ _ => trivial))
                 (case aO => exact (by (with_reducible repeat (first | apply Kd.R_alloc | apply Kd.R_drewN | apply Kd.R_drew)); exact HO296.out))
                 (case aS => exact (below_size (by repeat (first | (with_reducible first | exact HB.out | apply below_alloc | apply pw_below_drewN | apply below_drew1 | refine below_set ?_ GE281.out | refine below_set ?_ GE292.out) | exact HB.out))))
                 (case aL => have := LMc41.out; omega)
                 intro v302 w67 ho hb hg hat
                 rw [← Ny301.out] at ho
                 have n0_ := Aside0.mk (blk_grown (g := gb281) (o := .cells #[.slice (some ad293) l0_0.length c0_0] 24 (0, 0)) (by (with_reducible repeat (first | refine blk_drewN ?_ _ | refine blk_drew ?_ | refine blk_alloc ?_ _)); exact BK281.out) hg (Kd.R_ne HO296.out BK281.out (by decide)))
                 have n1_ := Aside0.mk (blk_grown (g := gb292) (o := .cells #[.slice Ao62 y294.length co62] 24 (0, 0)) (by (with_reducible repeat (first | refine blk_drewN ?_ _ | refine blk_drew ?_ | refine blk_alloc ?_ _)); exact BK292.out) hg (Kd.R_ne HO296.out BK292.out (by decide)))
                 have n2_ := Aside0.mk (hb)
                 have n3_ := Aside0.mk (ho)
                 clear BK281
                 clear BK292
                 clear HB
                 clear HO296
                 have BK281 := n0_
                 have BK292 := n1_
                 have HB := n2_
                 have HO303 := n3_
                 clear n0_ n1_ n2_ n3_
                 clear ho hb hg hat
                 obtain ⟨Ao68, co68, eo68⟩ := Kd.R_slice HO303.out
                 (first | subst eo68 | (injection eo68 with f1_ f2_ f3_; have f4_ := f1_.symm; have f5_ := f3_.symm; clear f1_ f2_ f3_; subst f4_; subst f5_))
                 refine hK.out _ _ ⟨(blk_cell BK292.out 0).trans rfl, (blk_cell BK281.out 0).trans rfl⟩ (fun hHeld => ?_)
                 clear hK K
                 refine norm_ (a' := ?_) ?_ ?_
                 rotate_left
                 ·show Act.put _ (some 70) _ = _
                  simp only [Act.put, List.setIfInBounds_toArray, List.set_cons_zero, List.set_cons_succ, i64_w, i32_w]
                  rfl
                 refine pure_ (i := 8) (N := some 71) (v := ?_) (a' := ?_) #[true, true, true, true, true, true, true, true, true, false] rfl rfl (any_of HT_.out (by kernel_rfl)) (fun _ _ _ h => h) (Or.inl ⟨by rfl, ?_⟩) ?_ ?_
                 rotate_left
                 ·intro w'
                  go_simp
                  with_reducible rfl
                 rotate_left
                 ·simp only [Act.put, List.setIfInBounds_toArray, List.set_cons_zero, List.set_cons_succ, i64_w, i32_w]
                  rfl
                 refine last_ (i := 9) (N := none) #[true, true, true, true, true, true, true, true, true, true] rfl rfl (one_of HT_.out (by kernel_rfl)) (by decide) (fun K hK => ?_)
                 have hs69 : w67.cell? ⟨gb292, 0, none⟩ = some (.slice Ao62 y294.length co62) := (blk_cell BK292.out 0).trans rfl
                 have hfs69 := blk_frozen BK292.out 0
                 have hns69_0 := NB281_292.out
                 have hms69_0 := NB292_281.out
                 refine skip_ (w1 := ?_) (by rfl) rfl ?_ ?_
                 rotate_left
                 ·go_simp
                  rfl
                 refine hK.out _ _ ?_
                 clear hK K
                 refine done_ (done_of HT_.out (by kernel_rfl)) ?_
                 have hcz70_0 : w67.cell? ⟨gb292, 0, none⟩ = some (.slice Ao62 y294.length co62) := (blk_cell BK292.out 0).trans rfl
                 have hfz70_0 := blk_frozen BK292.out 0
                 try go_wp2_with (first | ((with_reducible refine gate_callee (f := 26) rfl ?_); refine goesL_ (some 73) rfl rfl Try.func26 (by kernel_rfl) rfl #[.agg #[.slice Ao68 y301.length co68]] rfl (by (try simp only [List.map_toArray, List.map_cons, List.map_nil]); first | done | rfl | (simp only [List.length_drop, List.length_take]; rfl)) ?_; (with_reducible refine (tariff_Check.calls kj7 _ _ y301 t304 _ ?side1 ?side2 A42.out).mono ?_); (case side1 => refine (Kd.R_reads' (e := 42) (base := w.heap.size) (ok := fun k_ => True) (n := y301.length) (c := co68) ?_).2.2; exact (by (with_reducible repeat (first | apply Kd.R_alloc | apply Kd.R_drewN | apply Kd.R_drew)); exact (Kd.R_mono (Kd.R_far (p := ⟨gb292, 0, none⟩) (Kd.R_types HO303.out BK292.out (by decide)) (fun _ hk => hk.2) (.slice Ao68 y301.length co68)) (fun _ h_ => h_.1)))); (case side2 => exact (Kd.R_reads' HO303.out).2.1); rintro e w71 ⟨rfl, hb⟩; refine ⟨_, rfl, ?_⟩; have n0_ := Aside0.mk (Kd.R_below (by (with_reducible repeat (first | apply Kd.R_alloc | apply Kd.R_drewN | apply Kd.R_drew)); exact (Kd.R_mono (Kd.R_far (p := ⟨gb292, 0, none⟩) (Kd.R_types HO303.out BK292.out (by decide)) (fun _ hk => hk.2) (.slice Ao68 y301.length co68)) (fun _ h_ => h_.1))) hb); have n1_ := Aside0.mk (blk_below (g := gb281) (o := .cells #[.slice (some ad293) l0_0.length c0_0] 24 (0, 0)) (by (with_reducible repeat (first | refine blk_drewN ?_ _ | refine blk_drew ?_ | refine blk_alloc ?_ _)); refine blk_far ?_ NB281_292.out _; (with_reducible repeat (first | refine blk_drewN ?_ _ | refine blk_drew ?_ | refine blk_alloc ?_ _)); exact BK281.out) hb); have n2_ := Aside0.mk (blk_below (g := gb292) (o := .cells #[.slice Ao68 y301.length co68] 24 (0, 0)) (by (with_reducible repeat (first | refine blk_drewN ?_ _ | refine blk_drew ?_ | refine blk_alloc ?_ _)); refine blk_put (cs := #[.slice Ao62 y294.length co62]) ?_ 0 _ rfl; (with_reducible repeat (first | refine blk_drewN ?_ _ | refine blk_drew ?_ | refine blk_alloc ?_ _)); exact BK292.out) hb); have n3_ := Aside0.mk (below_step (by repeat (first | (with_reducible first | exact HB.out | apply below_alloc | apply pw_below_drewN | apply below_drew1 | refine below_set ?_ GE281.out | refine below_set ?_ GE292.out) | exact HB.out)) hb); clear HO303; clear BK281; clear BK292; clear HB; have HO303 := n0_; have BK281 := n1_; have BK292 := n2_; have HB := n3_; clear n0_ n1_ n2_ n3_; (try clear hb); (try clear hb2); (try clear hk); (try clear hi); have hcz72_0 : w71.cell? ⟨gb281, 0, none⟩ = some (.slice (some ad293) l0_0.length c0_0) := (blk_cell BK281.out 0).trans rfl; have hfz72_0 := blk_frozen BK281.out 0) | ((with_reducible refine gate_callee (f := 28) rfl ?_); refine goesL_ (some 79) rfl rfl Try.func28 (by kernel_rfl) rfl #[.agg #[.slice (some ad293) l0_0.length c0_0], .int .i64 a3, .int .i64 a4] rfl (by (try simp only [List.map_toArray, List.map_cons, List.map_nil]); first | done | rfl | (simp only [List.length_drop, List.length_take]; rfl)) ?_; (with_reducible refine (tariff_Price.calls kj7 _ _ l0_0 a3 a4 t305 t306 _ ?side1 ?side2 A44.out).mono ?_); (case side1 => repeat (first | exact (Kd.C_below HR0_0.out HB.out) | (with_reducible refine Kd.C_alloc ?_ _) | (with_reducible refine Kd.C_drewN ?_ _) | (with_reducible refine Kd.C_drew ?_))); (case side2 => exact HC0_0.out); rintro e w73 ⟨rfl, hb⟩; refine ⟨_, rfl, ?_⟩; have n0_ := Aside0.mk (Kd.R_below (by (with_reducible repeat (first | apply Kd.R_alloc | apply Kd.R_drewN | apply Kd.R_drew)); exact HO303.out) hb); have n1_ := Aside0.mk (blk_below (g := gb281) (o := .cells #[.slice (some ad293) l0_0.length c0_0] 24 (0, 0)) (by (with_reducible repeat (first | refine blk_drewN ?_ _ | refine blk_drew ?_ | refine blk_alloc ?_ _)); exact BK281.out) hb); have n2_ := Aside0.mk (blk_below (g := gb292) (o := .cells #[.slice Ao68 y301.length co68] 24 (0, 0)) (by (with_reducible repeat (first | refine blk_drewN ?_ _ | refine blk_drew ?_ | refine blk_alloc ?_ _)); exact BK292.out) hb); have n3_ := Aside0.mk (below_step (by repeat (first | (with_reducible first | exact HB.out | apply below_alloc | apply pw_below_drewN | apply below_drew1 | refine below_set ?_ GE281.out | refine below_set ?_ GE292.out) | exact HB.out)) hb); clear HO303; clear BK281; clear BK292; clear HB; have HO303 := n0_; have BK281 := n1_; have BK292 := n2_; have HB := n3_; clear n0_ n1_ n2_ n3_; (try clear hb); (try clear hb2); (try clear hk); (try clear hi); have hcz74_0 : w73.cell? ⟨gb292, 0, none⟩ = some (.slice Ao68 y301.length co68) := (blk_cell BK292.out 0).trans rfl; have hfz74_0 := blk_frozen BK292.out 0) | ((with_reducible refine gate_callee (f := 28) rfl ?_); refine goesL_ (some 86) rfl rfl Try.func28 (by kernel_rfl) rfl #[.agg #[.slice Ao68 y301.length co68], .int .i64 a3, .int .i64 a4] rfl (by (try simp only [List.map_toArray, List.map_cons, List.map_nil]); first | done | rfl | (simp only [List.length_drop, List.length_take]; rfl)) ?_; (with_reducible refine (tariff_Price.calls kj7 _ _ y301 a3 a4 t307 t308 _ ?side1 ?side2 A45.out).mono ?_); (case side1 => repeat (first | exact (Kd.R_reads' HO303.out).2.2 | (with_reducible refine Kd.C_alloc ?_ _) | (with_reducible refine Kd.C_drewN ?_ _) | (with_reducible refine Kd.C_drew ?_))); (case side2 => exact (Kd.R_reads' HO303.out).2.1); rintro e w75 ⟨rfl, hb⟩; refine ⟨_, rfl, ?_⟩; have n0_ := Aside0.mk (Kd.R_below (by (with_reducible repeat (first | apply Kd.R_alloc | apply Kd.R_drewN | apply Kd.R_drew)); exact HO303.out) hb); have n1_ := Aside0.mk (blk_below (g := gb281) (o := .cells #[.slice (some ad293) l0_0.length c0_0] 24 (0, 0)) (by (with_reducible repeat (first | refine blk_drewN ?_ _ | refine blk_drew ?_ | refine blk_alloc ?_ _)); exact BK281.out) hb); have n2_ := Aside0.mk (blk_below (g := gb292) (o := .cells #[.slice Ao68 y301.length co68] 24 (0, 0)) (by (with_reducible repeat (first | refine blk_drewN ?_ _ | refine blk_drew ?_ | refine blk_alloc ?_ _)); exact BK292.out) hb); have n3_ := Aside0.mk (below_step (by repeat (first | (with_reducible first | exact HB.out | apply below_alloc | apply pw_below_drewN | apply below_drew1 | refine below_set ?_ GE281.out | refine below_set ?_ GE292.out) | exact HB.out)) hb); clear HO303; clear BK281; clear BK292; clear HB; have HO303 := n0_; have BK281 := n1_; have BK292 := n2_; have HB := n3_; clear n0_ n1_ n2_ n3_; (try clear hb); (try clear hb2); (try clear hk); (try clear hi); have hcz76_0 : w75.cell? ⟨gb281, 0, none⟩ = some (.slice (some ad293) l0_0.length c0_0) := (blk_cell BK281.out 0).trans rfl; have hfz76_0 := blk_frozen BK281.out 0) | ((with_reducible refine gate_callee (f := 24) rfl ?_); refine goesL_ (some 92) rfl rfl Try.func24 (by kernel_rfl) rfl #[.agg #[.slice (some ad293) l0_0.length c0_0], .int .i64 a3] rfl (by (try simp only [List.map_toArray, List.map_cons, List.map_nil]); first | done | rfl | (simp only [List.length_drop, List.length_take]; rfl)) ?_; (with_reducible refine (tariff_Change.calls kj7 _ _ l0_0 a3 t309 t310 t311 _ ?side1 ?side2 A46.out).mono ?_); (case side1 => repeat (first | exact (Kd.C_below HR0_0.out HB.out) | (with_reducible refine Kd.C_alloc ?_ _) | (with_reducible refine Kd.C_drewN ?_ _) | (with_reducible refine Kd.C_drew ?_))); (case side2 => exact HC0_0.out); rintro e w77 ⟨rfl, hb⟩; refine ⟨_, rfl, ?_⟩; have n0_ := Aside0.mk (Kd.R_below (by (with_reducible repeat (first | apply Kd.R_alloc | apply Kd.R_drewN | apply Kd.R_drew)); exact HO303.out) hb); have n1_ := Aside0.mk (blk_below (g := gb281) (o := .cells #[.slice (some ad293) l0_0.length c0_0] 24 (0, 0)) (by (with_reducible repeat (first | refine blk_drewN ?_ _ | refine blk_drew ?_ | refine blk_alloc ?_ _)); exact BK281.out) hb); have n2_ := Aside0.mk (blk_below (g := gb292) (o := .cells #[.slice Ao68 y301.length co68] 24 (0, 0)) (by (with_reducible repeat (first | refine blk_drewN ?_ _ | refine blk_drew ?_ | refine blk_alloc ?_ _)); exact BK292.out) hb); have n3_ := Aside0.mk (below_step (by repeat (first | (with_reducible first | exact HB.out | apply below_alloc | apply pw_below_drewN | apply below_drew1 | refine below_set ?_ GE281.out | refine below_set ?_ GE292.out) | exact HB.out)) hb); clear HO303; clear BK281; clear BK292; clear HB; have HO303 := n0_; have BK281 := n1_; have BK292 := n2_; have HB := n3_; clear n0_ n1_ n2_ n3_; (try clear hb); (try clear hb2); (try clear hk); (try clear hi); have hcz78_0 : w77.cell? ⟨gb292, 0, none⟩ = some (.slice Ao68 y301.length co68) := (blk_cell BK292.out 0).trans rfl; have hfz78_0 := blk_frozen BK292.out 0) | ((with_reducible refine gate_callee (f := 24) rfl ?_); refine goesL_ (some 99) rfl rfl Try.func24 (by kernel_rfl) rfl #[.agg #[.slice Ao68 y301.length co68], .int .i64 a3] rfl (by (try simp only [List.map_toArray, List.map_cons, List.map_nil]); first | done | rfl | (simp only [List.length_drop, List.length_take]; rfl)) ?_; (with_reducible refine (tariff_Change.calls kj7 _ _ y301 a3 t312 t313 t314 _ ?side1 ?side2 A47.out).mono ?_); (case side1 => repeat (first | exact (Kd.R_reads' HO303.out).2.2 | (with_reducible refine Kd.C_alloc ?_ _) | (with_reducible refine Kd.C_drewN ?_ _) | (with_reducible refine Kd.C_drew ?_))); (case side2 => exact (Kd.R_reads' HO303.out).2.1); rintro e w79 ⟨rfl, hb⟩; refine ⟨_, rfl, ?_⟩; have n0_ := Aside0.mk (Kd.R_below (by (with_reducible repeat (first | apply Kd.R_alloc | apply Kd.R_drewN | apply Kd.R_drew)); exact HO303.out) hb); have n1_ := Aside0.mk (blk_below (g := gb281) (o := .cells #[.slice (some ad293) l0_0.length c0_0] 24 (0, 0)) (by (with_reducible repeat (first | refine blk_drewN ?_ _ | refine blk_drew ?_ | refine blk_alloc ?_ _)); exact BK281.out) hb); have n2_ := Aside0.mk (blk_below (g := gb292) (o := .cells #[.slice Ao68 y301.length co68] 24 (0, 0)) (by (with_reducible repeat (first | refine blk_drewN ?_ _ | refine blk_drew ?_ | refine blk_alloc ?_ _)); exact BK292.out) hb); have n3_ := Aside0.mk (below_step (by repeat (first | (with_reducible first | exact HB.out | apply below_alloc | apply pw_below_drewN | apply below_drew1 | refine below_set ?_ GE281.out | refine below_set ?_ GE292.out) | exact HB.out)) hb); clear HO303; clear BK281; clear BK292; clear HB; have HO303 := n0_; have BK281 := n1_; have BK292 := n2_; have HB := n3_; clear n0_ n1_ n2_ n3_; (try clear hb); (try clear hb2); (try clear hk); (try clear hi)))
                 go_ret
                 exact ⟨by first | rfl | (simp [errW_none, errW_some] <;> rfl) | (simp only [← hji32]; first | rfl | (simp [errW_none, errW_some] <;> rfl)) | (simp [*, errW_none, errW_some] <;> rfl), by repeat (first | (with_reducible first | exact HB.out | apply below_alloc | apply pw_below_drewN | apply below_drew1 | refine below_set ?_ GE281.out | refine below_set ?_ GE292.out) | exact HB.out)⟩
                ·rw [if_neg c51] at H
                 have c51b0 : (t310 == t313) = false := by simpa using c51
                 (try (have c51b1 : decide (t310 = t313) = false := by simpa using c51))
                 (try (have c51b2 : (t310 == t313) = false := by simpa using c51))
                 (try (have c51b3 : ¬ (t310 = t313) := by simpa using c51))
                 clear c51
                 exact absurd ((Option.some.inj H).trans HT_TRUE.out) (by simp)
               ·rw [if_neg c50] at H
                have c50b0 : (t309 == t312) = false := beq_eq_false_iff_ne.mpr c50
                have c50b1 : (t309 != t312) = true := bne_iff_ne.mpr c50
                exact absurd ((Option.some.inj H).trans HT_TRUE.out) (by simp)
              ·rw [if_neg c49] at H
               have c49b0 : (t306 == t308) = false := beq_eq_false_iff_ne.mpr c49
               have c49b1 : (t306 != t308) = true := bne_iff_ne.mpr c49
               exact absurd ((Option.some.inj H).trans HT_TRUE.out) (by simp)
             ·rw [if_neg c48] at H
              have c48b0 : (t305 == t307) = false := beq_eq_false_iff_ne.mpr c48
              have c48b1 : (t305 != t307) = true := bne_iff_ne.mpr c48
              exact absurd ((Option.some.inj H).trans HT_TRUE.out) (by simp)
            ·rw [if_neg c43] at H
             have c43b0 : (t304 == 0) = false := beq_eq_false_iff_ne.mpr c43
             have c43b1 : (t304 != 0) = true := bne_iff_ne.mpr c43
             obtain rfl := Option.some.inj H
             have hcz80_0 : wc.cell? ⟨gb281, 0, none⟩ = some (.slice A0_0 l0_0.length c0_0) := (blk_cell BK281.out 0).trans rfl
             have hfz80_0 := blk_frozen BK281.out 0
             have q81 : ((ji32) : Int) ≤ ((l0_0.length : Int) : Int) := of_decide_eq_true (by first | (with_reducible assumption) | assumption)
             obtain ⟨i081, hi081, _, hsz81, _⟩ := info_parts info42
             have hroom81 : l0_0.length ≤ c0_0 := HC0_0.out
             have hC81 : Kd.C k42 _ A0_0 l0_0.length l0_0 := HR0_0.out
             have hcut81 := cut_to (P := Try.prog) 22 42 .i64 Try.underlying22 hi081 A0_0 l0_0.length c0_0 (ji32) (of_decide_eq_true (by first | (with_reducible assumption) | assumption)) q81 hroom81
             have hr81 := Kd.C_take (m := ((ji32) : Int).toNat) hC81 (by omega)
             have hy81 : y285.length = ((ji32) : Int).toNat := (by rw [Ny285.out, List.length_take]; omega)
             rw [← Ny285.out] at hr81
             rw [← hy81] at hcut81
             have HR288 := Aside0.mk hr81
             have HC288 := Aside0.mk (show y285.length ≤ c0_0 from by omega)
             clear hr81 hC81 hroom81 hi081 hsz81
             have KY81 := Aside0.mk hy81
             clear hy81
             replace q81 := eq_true q81
             try go_wp2_with (first | ((with_reducible refine gate_builtin (b := .append) (xs := #[.const (Value.slice none 0 0), .tmp 47]) rfl ?_); (try (refine gate_guard (by rfl) ?_; dsimp only)); at_builtin; refine Kd.R_append_rows k42 (w0 := w) w.heap.size rfl (.const (Value.slice none 0 0)) (.tmp 47) 22 42 (.agg #[(.int .i64 0), (.int .i64 0)]) 16 rfl Try.underlying22 info42 rfl (by decide) (by omega) (.slice none 0 0) ([] : List (S42)) y285 _ _ _ (fun _ => True) (fun _ => False) rfl rfl ?aO ?aR (fun _ _ h => h) (fun _ h => h.elim) ?aF ?aB ?aS ?aL ?_; (case aR => repeat (first | exact (Kd.C_below HR288.out HB.out) | (with_reducible refine Kd.C_alloc ?_ _) | (with_reducible refine Kd.C_drewN ?_ _) | (with_reducible refine Kd.C_drew ?_))); (case aB => exact (by repeat (first | (with_reducible first | exact HB.out | apply below_alloc | apply pw_below_drewN | apply below_drew1 | refine below_set ?_ GE281.out) | exact HB.out))); (case aF => exact (fun _ _ => trivial)); (case aO => exact ((Kd.R_nil _ _ _ _ (fun _ => True)))); (case aS => exact (below_size (by repeat (first | (with_reducible first | exact HB.out | apply below_alloc | apply pw_below_drewN | apply below_drew1 | refine below_set ?_ GE281.out) | exact HB.out)))); (case aL => have := LMc35.out; omega); intro v290 w82 ho hb hg hat; rw [← Ny289.out] at ho; have n0_ := Aside0.mk (blk_grown (g := gb281) (o := .cells #[.slice A0_0 l0_0.length c0_0] 24 (0, 0)) (by (with_reducible repeat (first | refine blk_drewN ?_ _ | refine blk_drew ?_ | refine blk_alloc ?_ _)); exact BK281.out) hg (by simp [Value.ownBlock])); have n1_ := Aside0.mk (hb); have n2_ := Aside0.mk (ho); clear BK281; clear HB; have BK281 := n0_; have HB := n1_; have HO291 := n2_; clear n0_ n1_ n2_; clear ho hb hg hat; obtain ⟨Ao83, co83, eo83⟩ := Kd.R_slice HO291.out; subst eo83) | ((with_reducible refine gate_dst (N := 11) rfl ?_); (try (refine gate_guard (by rfl) ?_; dsimp only)); refine box_event ?hg (N := 11) ?hd (cs := #[.slice none 0 0]) (t := 24) ?hr ?_; (case hd => rfl); (case hg => rfl); (case hr => first | (go_simp; done) | (go_simp; rfl)); intro gb292 hg w84 hbox hb; have n0_ := Aside0.mk (Kd.R_below (by (with_reducible repeat (first | apply Kd.R_alloc | apply Kd.R_drewN | apply Kd.R_drew)); exact HO291.out) hb); have n1_ := Aside0.mk (blk_below (g := gb281) (o := .cells #[.slice A0_0 l0_0.length c0_0] 24 (0, 0)) (by (with_reducible repeat (first | refine blk_drewN ?_ _ | refine blk_drew ?_ | refine blk_alloc ?_ _)); exact BK281.out) hb); have n2_ := Aside0.mk (below_step (by repeat (first | (with_reducible first | exact HB.out | apply below_alloc | apply pw_below_drewN | apply below_drew1 | refine below_set ?_ GE281.out) | exact HB.out)) hb); have n3_ := Aside0.mk (hbox); have n4_ := Aside0.mk ((by rw [hg]; exact (below_size (by repeat (first | (with_reducible first | exact HB.out | apply below_alloc | apply pw_below_drewN | apply below_drew1 | refine below_set ?_ GE281.out) | exact HB.out))) : w.heap.size ≤ gb292)); have n5_ := Aside0.mk ((by rw [hg]; exact (below_size (by repeat (first | (with_reducible first | exact HB.out | apply below_alloc | apply pw_below_drewN | apply below_drew1 | refine below_set ?_ GE281.out) | exact HB.out))) : w.heap.size ≤ gb292)); have n6_ := Aside0.mk ((by rw [hg]; exact Nat.ne_of_lt (blk_lt (g := gb281) (o := .cells #[.slice A0_0 l0_0.length c0_0] 24 (0, 0)) (by (with_reducible repeat (first | refine blk_drewN ?_ _ | refine blk_drew ?_ | refine blk_alloc ?_ _)); exact BK281.out)) : gb281 ≠ gb292)); have n7_ := Aside0.mk ((by rw [hg]; exact Nat.ne_of_gt (blk_lt (g := gb281) (o := .cells #[.slice A0_0 l0_0.length c0_0] 24 (0, 0)) (by (with_reducible repeat (first | refine blk_drewN ?_ _ | refine blk_drew ?_ | refine blk_alloc ?_ _)); exact BK281.out)) : gb292 ≠ gb281)); clear HO291; clear BK281; clear HB; have HO291 := n0_; have BK281 := n1_; have HB := n2_; have BK292 := n3_; have GW292 := n4_; have GE292 := n5_; have NB281_292 := n6_; have NB292_281 := n7_; clear n0_ n1_ n2_ n3_ n4_ n5_ n6_ n7_; clear hb hbox hg; have hnb85 := NB292_281.out; have hnc85 := NB281_292.out; have hcz86_0 : w84.cell? ⟨gb292, 0, none⟩ = some (.slice none 0 0) := (blk_cell BK292.out 0).trans rfl; have hfz86_0 := blk_frozen BK292.out 0))
             have n0_ : Aside0 (Kd.R k42 42 (w84.setCell ⟨gb292, 0, none⟩ (.slice Ao83 y289.length co83)) w.heap.size (fun _ => True) (.slice Ao83 y289.length co83) y289) := ⟨by (with_reducible repeat (first | apply Kd.R_alloc | apply Kd.R_drewN | apply Kd.R_drew)); exact Kd.R_mono (Kd.R_far (p := ⟨gb292, 0, none⟩) (Kd.R_types HO291.out BK292.out (by decide)) (fun _ hk => hk.2) (.slice Ao83 y289.length co83)) (fun _ hk => trivial)⟩
             have n1_ : Aside0 ((w84.setCell ⟨gb292, 0, none⟩ (.slice Ao83 y289.length co83)).heap[gb281]? = some (.cells #[.slice A0_0 l0_0.length c0_0] 24 (0, 0))) := ⟨by (with_reducible repeat (first | refine blk_drewN ?_ _ | refine blk_drew ?_ | refine blk_alloc ?_ _)); refine blk_far ?_ NB281_292.out _; (with_reducible repeat (first | refine blk_drewN ?_ _ | refine blk_drew ?_ | refine blk_alloc ?_ _)); exact BK281.out⟩
             have n2_ : Aside0 ((w84.setCell ⟨gb292, 0, none⟩ (.slice Ao83 y289.length co83)).heap[gb292]? = some (.cells #[.slice Ao83 y289.length co83] 24 (0, 0))) := ⟨by (with_reducible repeat (first | refine blk_drewN ?_ _ | refine blk_drew ?_ | refine blk_alloc ?_ _)); refine blk_put (cs := #[.slice none 0 0]) ?_ 0 _ rfl; (with_reducible repeat (first | refine blk_drewN ?_ _ | refine blk_drew ?_ | refine blk_alloc ?_ _)); exact BK292.out⟩
             have n3_ : Aside0 (Below w.heap.size w (w84.setCell ⟨gb292, 0, none⟩ (.slice Ao83 y289.length co83))) := ⟨by repeat (first | (with_reducible first | exact HB.out | apply below_alloc | apply pw_below_drewN | apply below_drew1 | refine below_set ?_ GE281.out | refine below_set ?_ GE292.out) | exact HB.out)⟩
             (try clear HO291)
             (try clear BK281)
             (try clear BK292)
             (try clear HB)
             generalize (w84.setCell ⟨gb292, 0, none⟩ (.slice Ao83 y289.length co83)) = w87 at n0_ n1_ n2_ n3_ ⊢
             have HO291 := n0_
             have BK281 := n1_
             have BK292 := n2_
             have HB := n3_
             clear n0_ n1_ n2_ n3_
             have n0_ := Aside0.mk (Kd.R_drew HO291.out)
             have n1_ := Aside0.mk (blk_drew BK281.out)
             have n2_ := Aside0.mk (blk_drew BK292.out)
             have n3_ := Aside0.mk (below_drew1 HB.out)
             clear HO291
             clear BK281
             clear BK292
             clear HB
             have HO291 := n0_
             have BK281 := n1_
             have BK292 := n2_
             have HB := n3_
             clear n0_ n1_ n2_ n3_
             have p293 : 0 ≤ (a1 : Int) := of_decide_eq_true (by first | (with_reducible assumption) | assumption)
             have q293 : a1 < (l0_0.length : Int) := of_decide_eq_true (by first | (with_reducible assumption) | assumption)
             obtain ⟨ad293, e293, hx293_0, hx293_1⟩ := at_T42 HR0_0.out a1 p293 q293
             have hw293_1 := hx293_1
             have hw293_0 := hx293_0
             cases e293
             replace hx293_0 := (HB.out.cell (World.block_lt_of_cell? w _ hx293_0)).trans hx293_0
             replace hx293_1 := (HB.out.cell (World.block_lt_of_cell? w _ hx293_1)).trans hx293_1
             replace p293 := eq_true p293
             replace q293 := eq_true q293
             refine start_ (n := 14) (S := fun w' => w'.cell? ⟨gb292, 0, none⟩ = some (.slice Ao83 y289.length co83) ∧ w'.cell? ⟨gb281, 0, none⟩ = some (.slice (some ad293) l0_0.length c0_0) ∧ w'.cell? (ad293.add ((a1).toNat * 2)) = some (.int .i64 ((rd_T42 l0_0 a1).f0)) ∧ w'.cell? ⟨(ad293.add ((a1).toNat * 2)).block, (ad293.add ((a1).toNat * 2)).off + 1, none⟩ = some (.int .i64 ((rd_T42 l0_0 a1).f1))) (ds := [13]) #[false, false, false, false, false, false, false, false, false, false, false, false, false, false] (by kernel_rfl) rfl rfl ⟨(blk_cell BK292.out 0).trans rfl, (blk_cell BK281.out 0).trans rfl, ((HB.out.cell (World.block_lt_of_cell? w _ hw293_0)).trans hw293_0), ((HB.out.cell (World.block_lt_of_cell? w _ hw293_1)).trans hw293_1)⟩ (fun hHeld => ?_); refine with_tabW crossbarlaw26_TariffRedundantBand.tab6 crossbarlaw26_TariffRedundantBand.bits6 (fun HT_ HW_ => ?_)
             generalize w87.drew = w88 at HO291 BK281 BK292 HB hx293_0 hx293_1 hHeld ⊢
             refine pure_ (i := 0) (N := some 50) (v := ?_) (a' := ?_) #[true, false, false, false, false, false, false, false, false, false, false, false, false, false] rfl rfl (any_of HT_.out (by kernel_rfl)) (fun _ _ _ h => h) (Or.inl ⟨by rfl, ?_⟩) ?_ ?_
             rotate_left
             ·intro w'
              go_simp
              with_reducible rfl
             rotate_left
             ·simp only [Act.put, List.setIfInBounds_toArray, List.set_cons_zero, List.set_cons_succ, i64_w, i32_w]
              rfl
             refine pure_ (i := 2) (N := some 52) (v := ?_) (a' := ?_) #[true, false, true, false, false, false, false, false, false, false, false, false, false, false] rfl rfl (any_of HT_.out (by kernel_rfl)) (fun _ _ _ h => h) (Or.inl ⟨by rfl, ?_⟩) ?_ ?_
             rotate_left
             ·intro w'
              go_simp
              with_reducible rfl
             rotate_left
             ·simp only [Act.put, List.setIfInBounds_toArray, List.set_cons_zero, List.set_cons_succ, i64_w, i32_w]
              rfl
             refine pure_ (i := 3) (N := some 53) (v := ?_) (a' := ?_) #[true, false, true, true, false, false, false, false, false, false, false, false, false, false] rfl rfl (any_of HT_.out (by kernel_rfl)) (fun _ _ _ h => h) (Or.inl ⟨by rfl, ?_⟩) ?_ ?_
             rotate_left
             ·intro w'
              go_simp
              with_reducible rfl
             rotate_left
             ·simp only [Act.put, List.setIfInBounds_toArray, List.set_cons_zero, List.set_cons_succ, i64_w, i32_w]
              rfl
             refine pure_ (i := 5) (N := some 55) (v := ?_) (a' := ?_) #[true, false, true, true, false, true, false, false, false, false, false, false, false, false] rfl rfl (any_of HT_.out (by kernel_rfl)) (fun _ _ _ h => h) (Or.inl ⟨by rfl, ?_⟩) ?_ ?_
             rotate_left
             ·intro w'
              go_simp
              with_reducible rfl
             rotate_left
             ·simp only [Act.put, List.setIfInBounds_toArray, List.set_cons_zero, List.set_cons_succ, i64_w, i32_w]
              rfl
             refine take_ (i := 1) (N := some 51) (v := ?_) (a' := ?_) #[true, true, true, true, false, true, false, false, false, false, false, false, false, false] rfl rfl (take_ofW HT_.out HW_.out (by kernel_rfl)) (fun _ _ _ h => h) (Or.inl ⟨by rfl, ?_⟩) hHeld ?_ ?_
             rotate_left
             ·rintro w' ⟨s0, s1, s2, s3⟩
              go_simp
              with_reducible rfl
             rotate_left
             ·simp only [Act.put, List.setIfInBounds_toArray, List.set_cons_zero, List.set_cons_succ, i64_w, i32_w]
              rfl
             refine take_ (i := 4) (N := some 54) (v := ?_) (a' := ?_) #[true, true, true, true, true, true, false, false, false, false, false, false, false, false] rfl rfl (take_ofW HT_.out HW_.out (by kernel_rfl)) (fun _ _ _ h => h) (Or.inl ⟨by rfl, ?_⟩) hHeld ?_ ?_
             rotate_left
             ·rintro w' ⟨s0, s1, s2, s3⟩
              go_simp
              with_reducible rfl
             rotate_left
             ·simp only [Act.put, List.setIfInBounds_toArray, List.set_cons_zero, List.set_cons_succ, i64_w, i32_w]
              rfl
             refine pure_ (i := 6) (N := some 56) (v := ?_) (a' := ?_) #[true, true, true, true, true, true, true, false, false, false, false, false, false, false] rfl rfl (any_of HT_.out (by kernel_rfl)) (fun _ _ _ h => h) (Or.inl ⟨by rfl, ?_⟩) ?_ ?_
             rotate_left
             ·intro w'
              go_simp
              with_reducible rfl
             rotate_left
             ·simp only [Act.put, List.setIfInBounds_toArray, List.set_cons_zero, List.set_cons_succ, i64_w, i32_w]
              rfl
             refine pure_ (i := 7) (N := some 57) (v := ?_) (a' := ?_) #[true, true, true, true, true, true, true, true, false, false, false, false, false, false] rfl rfl (any_of HT_.out (by kernel_rfl)) (fun _ _ _ h => h) (Or.inl ⟨by rfl, ?_⟩) ?_ ?_
             rotate_left
             ·intro w'
              go_simp
              with_reducible rfl
             rotate_left
             ·simp only [Act.put, List.setIfInBounds_toArray, List.set_cons_zero, List.set_cons_succ, i64_w, i32_w]
              rfl
             refine take_ (i := 8) (N := some 58) (v := ?_) (a' := ?_) #[true, true, true, true, true, true, true, true, true, false, false, false, false, false] rfl rfl (take_ofW HT_.out HW_.out (by kernel_rfl)) (fun _ _ _ h => h) (Or.inl ⟨by rfl, ?_⟩) hHeld ?_ ?_
             rotate_left
             ·rintro w' ⟨s0, s1, s2, s3⟩
              go_simp
              with_reducible rfl
             rotate_left
             ·simp only [Act.put, List.setIfInBounds_toArray, List.set_cons_zero, List.set_cons_succ, i64_w, i32_w]
              rfl
             refine pure_ (i := 9) (N := some 59) (v := ?_) (a' := ?_) #[true, true, true, true, true, true, true, true, true, true, false, false, false, false] rfl rfl (any_of HT_.out (by kernel_rfl)) (fun _ _ _ h => h) (Or.inl ⟨by rfl, ?_⟩) ?_ ?_
             rotate_left
             ·intro w'
              go_simp
              with_reducible rfl
             rotate_left
             ·simp only [Act.put, List.setIfInBounds_toArray, List.set_cons_zero, List.set_cons_succ, i64_w, i32_w]
              rfl
             refine one_ (i := 10) (N := some 60) #[true, true, true, true, true, true, true, true, true, true, true, false, false, false] rfl rfl (one_of HT_.out (by kernel_rfl)) (by decide) (fun K hK => ?_)
             refine value_ (w1 := ?_) (v := ?_) (by rfl) rfl ?_ ?_
             rotate_left 2
             ·go_simp
              constructor
              ·rfl
              ·rfl
             refine hK.out _ _ ⟨(blk_cell (blk_alloc BK292.out _) 0).trans rfl, (blk_cell (blk_alloc BK281.out _) 0).trans rfl, (World.cell?_alloc_lt _ _ _ (World.block_lt_of_cell? _ _ (((HB.out.cell (World.block_lt_of_cell? w _ hw293_0)).trans hw293_0)))).trans (((HB.out.cell (World.block_lt_of_cell? w _ hw293_0)).trans hw293_0)), (World.cell?_alloc_lt _ _ _ (World.block_lt_of_cell? _ _ (((HB.out.cell (World.block_lt_of_cell? w _ hw293_1)).trans hw293_1)))).trans (((HB.out.cell (World.block_lt_of_cell? w _ hw293_1)).trans hw293_1))⟩ (fun hHeld => ?_)
             clear hK K
             refine norm_ (a' := ?_) ?_ ?_
             rotate_left
             ·show Act.put _ (some 60) _ = _
              simp only [Act.put, List.setIfInBounds_toArray, List.set_cons_zero, List.set_cons_succ, i64_w, i32_w]
              rfl
             refine one_ (i := 11) (N := some 61) #[true, true, true, true, true, true, true, true, true, true, true, true, false, false] rfl rfl (one_of HT_.out (by kernel_rfl)) (by decide) (fun K hK => ?_)
             refine Kd.R_append_step k42 (w0 := w) w.heap.size (by rfl) (.tmp 51) (.tmp 60) 22 42 (.agg #[(.int .i64 0), (.int .i64 0)]) 16 rfl Try.underlying22 info42 rfl (by decide) (by omega) (.slice Ao83 y289.length co83) y289 (⟨a2, (rd_T42 l0_0 a1).f1⟩ : S42) [.int .i64 a2, .int .i64 ((rd_T42 l0_0 a1).f1)] (fun _ => True) (fun _ => False) rfl rfl ?aP (fun _ hk => hk.elim) ?aF ?aO ?aB ?aS ?aL ?_
             (case aP => exact k42_mkM _ _ _ (⟨a2, (rd_T42 l0_0 a1).f1⟩ : S42))
             (case aB => exact (by repeat (first | (with_reducible first | exact HB.out | apply below_alloc | apply pw_below_drewN | apply below_drew1 | refine below_set ?_ GE281.out | refine below_set ?_ GE292.out) | exact HB.out)))
             (case aF => exact (fun _ _ => trivial))
             (case aO => exact (by (with_reducible repeat (first | apply Kd.R_alloc | apply Kd.R_drewN | apply Kd.R_drew)); exact HO291.out))
             (case aS => exact (below_size (by repeat (first | (with_reducible first | exact HB.out | apply below_alloc | apply pw_below_drewN | apply below_drew1 | refine below_set ?_ GE281.out | refine below_set ?_ GE292.out) | exact HB.out))))
             (case aL => have := LMc38.out; omega)
             intro v295 w89 ho hb hg hat
             rw [← Ny294.out] at ho
             have n0_ := Aside0.mk (blk_grown (g := gb281) (o := .cells #[.slice (some ad293) l0_0.length c0_0] 24 (0, 0)) (by (with_reducible repeat (first | refine blk_drewN ?_ _ | refine blk_drew ?_ | refine blk_alloc ?_ _)); exact BK281.out) hg (Kd.R_ne HO291.out BK281.out (by decide)))
             have n1_ := Aside0.mk (blk_grown (g := gb292) (o := .cells #[.slice Ao83 y289.length co83] 24 (0, 0)) (by (with_reducible repeat (first | refine blk_drewN ?_ _ | refine blk_drew ?_ | refine blk_alloc ?_ _)); exact BK292.out) hg (Kd.R_ne HO291.out BK292.out (by decide)))
             have n2_ := Aside0.mk (hb)
             have n3_ := Aside0.mk (ho)
             clear BK281
             clear BK292
             clear HB
             clear HO291
             have BK281 := n0_
             have BK292 := n1_
             have HB := n2_
             have HO296 := n3_
             clear n0_ n1_ n2_ n3_
             clear ho hb hg hat
             obtain ⟨Ao90, co90, eo90⟩ := Kd.R_slice HO296.out
             (first | subst eo90 | (injection eo90 with f1_ f2_ f3_; have f4_ := f1_.symm; have f5_ := f3_.symm; clear f1_ f2_ f3_; subst f4_; subst f5_))
             refine hK.out _ _ ⟨(blk_cell BK292.out 0).trans rfl, (blk_cell BK281.out 0).trans rfl, ((HB.out.cell (World.block_lt_of_cell? w _ hw293_0)).trans hw293_0), ((HB.out.cell (World.block_lt_of_cell? w _ hw293_1)).trans hw293_1)⟩ (fun hHeld => ?_)
             clear hK K
             refine norm_ (a' := ?_) ?_ ?_
             rotate_left
             ·show Act.put _ (some 61) _ = _
              simp only [Act.put, List.setIfInBounds_toArray, List.set_cons_zero, List.set_cons_succ, i64_w, i32_w]
              rfl
             refine pure_ (i := 12) (N := some 62) (v := ?_) (a' := ?_) #[true, true, true, true, true, true, true, true, true, true, true, true, true, false] rfl rfl (any_of HT_.out (by kernel_rfl)) (fun _ _ _ h => h) (Or.inl ⟨by rfl, ?_⟩) ?_ ?_
             rotate_left
             ·intro w'
              go_simp
              with_reducible rfl
             rotate_left
             ·simp only [Act.put, List.setIfInBounds_toArray, List.set_cons_zero, List.set_cons_succ, i64_w, i32_w]
              rfl
             refine last_ (i := 13) (N := none) #[true, true, true, true, true, true, true, true, true, true, true, true, true, true] rfl rfl (one_of HT_.out (by kernel_rfl)) (by decide) (fun K hK => ?_)
             have hs91 : w89.cell? ⟨gb292, 0, none⟩ = some (.slice Ao83 y289.length co83) := (blk_cell BK292.out 0).trans rfl
             have hfs91 := blk_frozen BK292.out 0
             have hns91_0 := NB281_292.out
             have hms91_0 := NB292_281.out
             refine skip_ (w1 := ?_) (by rfl) rfl ?_ ?_
             rotate_left
             ·go_simp
              rfl
             refine hK.out _ _ ?_
             clear hK K
             refine done_ (done_of HT_.out (by kernel_rfl)) ?_
             try go_wp2
             have n0_ : Aside0 (Kd.R k42 42 (w89.setCell ⟨gb292, 0, none⟩ (.slice Ao90 y294.length co90)) w.heap.size (fun _ => True) (.slice Ao90 y294.length co90) y294) := ⟨by (with_reducible repeat (first | apply Kd.R_alloc | apply Kd.R_drewN | apply Kd.R_drew)); exact Kd.R_mono (Kd.R_far (p := ⟨gb292, 0, none⟩) (Kd.R_types HO296.out BK292.out (by decide)) (fun _ hk => hk.2) (.slice Ao90 y294.length co90)) (fun _ hk => trivial)⟩
             have n1_ : Aside0 ((w89.setCell ⟨gb292, 0, none⟩ (.slice Ao90 y294.length co90)).heap[gb281]? = some (.cells #[.slice (some ad293) l0_0.length c0_0] 24 (0, 0))) := ⟨by (with_reducible repeat (first | refine blk_drewN ?_ _ | refine blk_drew ?_ | refine blk_alloc ?_ _)); refine blk_far ?_ NB281_292.out _; (with_reducible repeat (first | refine blk_drewN ?_ _ | refine blk_drew ?_ | refine blk_alloc ?_ _)); exact BK281.out⟩
             have n2_ : Aside0 ((w89.setCell ⟨gb292, 0, none⟩ (.slice Ao90 y294.length co90)).heap[gb292]? = some (.cells #[.slice Ao90 y294.length co90] 24 (0, 0))) := ⟨by (with_reducible repeat (first | refine blk_drewN ?_ _ | refine blk_drew ?_ | refine blk_alloc ?_ _)); refine blk_put (cs := #[.slice Ao83 y289.length co83]) ?_ 0 _ rfl; (with_reducible repeat (first | refine blk_drewN ?_ _ | refine blk_drew ?_ | refine blk_alloc ?_ _)); exact BK292.out⟩
             have n3_ : Aside0 (Below w.heap.size w (w89.setCell ⟨gb292, 0, none⟩ (.slice Ao90 y294.length co90))) := ⟨by repeat (first | (with_reducible first | exact HB.out | apply below_alloc | apply pw_below_drewN | apply below_drew1 | refine below_set ?_ GE281.out | refine below_set ?_ GE292.out) | exact HB.out)⟩
             (try clear HO296)
             (try clear BK281)
             (try clear BK292)
             (try clear HB)
             generalize (w89.setCell ⟨gb292, 0, none⟩ (.slice Ao90 y294.length co90)) = w92 at n0_ n1_ n2_ n3_ ⊢
             have HO296 := n0_
             have BK281 := n1_
             have BK292 := n2_
             have HB := n3_
             clear n0_ n1_ n2_ n3_
             have n0_ := Aside0.mk (Kd.R_drew HO296.out)
             have n1_ := Aside0.mk (blk_drew BK281.out)
             have n2_ := Aside0.mk (blk_drew BK292.out)
             have n3_ := Aside0.mk (below_drew1 HB.out)
             clear HO296
             clear BK281
             clear BK292
             clear HB
             have HO296 := n0_
             have BK281 := n1_
             have BK292 := n2_
             have HB := n3_
             clear n0_ n1_ n2_ n3_
             have q94 : ((ji32) : Int) ≤ ((l0_0.length : Int) : Int) := of_decide_eq_true (by first | (with_reducible assumption) | assumption)
             obtain ⟨i094, hi094, _, hsz94, _⟩ := info_parts info42
             have hroom94 : l0_0.length ≤ c0_0 := HC0_0.out
             have hC94 : Kd.C k42 _ (some ad293) l0_0.length l0_0 := HR0_0.out
             have q094 : (0 : Int) ≤ ((ji32) : Int) := of_decide_eq_true (by first | (with_reducible assumption) | assumption)
             have hcut94 := cut_from (P := Try.prog) 22 42 .i64 Try.underlying22 hi094 2 hsz94 (some ad293) l0_0.length c0_0 (ji32) q094 q94
             have hr94 := Kd.C_drop (m := ((ji32) : Int).toNat) (c := c0_0) hC94 (by omega) hroom94
             obtain ⟨A94, hA94⟩ : ∃ A1, A1 = (if c0_0 = ((ji32) : Int).toNat then (some ad293) else ((some ad293) : Option Addr).map (·.add (((ji32) : Int).toNat * 2))) := ⟨_, rfl⟩
             obtain ⟨c94, hc94⟩ : ∃ c1, c1 = c0_0 - ((ji32) : Int).toNat := ⟨_, rfl⟩
             have hy94 : y297.length = l0_0.length - ((ji32) : Int).toNat := (by rw [Ny297.out, List.length_drop] <;> omega)
             rw [show (l0_0).drop ((ji32) : Int).toNat = y297 from Ny297.out.symm] at hr94
             replace hr94 : Kd.C k42 _ A94 y297.length y297 := (by rw [hA94]; exact hr94)
             rw [← hy94, ← hA94, ← hc94] at hcut94
             have HR300 := Aside0.mk hr94
             have HC300 := Aside0.mk (show y297.length ≤ c94 from by rw [hy94, hc94]; exact Nat.sub_le_sub_right hroom94 _)
             clear hr94 hC94 hroom94 hi094 hsz94 hc94
             have KY94 := Aside0.mk hy94
             have KA94 := Aside0.mk hA94
             clear hy94 hA94
             replace q94 := eq_true q94
             refine start_ (n := 10) (S := fun w' => w'.cell? ⟨gb292, 0, none⟩ = some (.slice Ao90 y294.length co90) ∧ w'.cell? ⟨gb281, 0, none⟩ = some (.slice (some ad293) l0_0.length c0_0)) (ds := [9]) #[false, false, false, false, false, false, false, false, false, false] (by kernel_rfl) rfl rfl ⟨(blk_cell BK292.out 0).trans rfl, (blk_cell BK281.out 0).trans rfl⟩ (fun hHeld => ?_); refine with_tabW crossbarlaw26_TariffRedundantBand.tab7 crossbarlaw26_TariffRedundantBand.bits7 (fun HT_ HW_ => ?_)
             generalize w92.drew = w93 at HO296 BK281 BK292 HB HR300 hHeld ⊢
             refine pure_ (i := 0) (N := some 63) (v := ?_) (a' := ?_) #[true, false, false, false, false, false, false, false, false, false] rfl rfl (any_of HT_.out (by kernel_rfl)) (fun _ _ _ h => h) (Or.inl ⟨by rfl, ?_⟩) ?_ ?_
             rotate_left
             ·intro w'
              go_simp
              with_reducible rfl
             rotate_left
             ·simp only [Act.put, List.setIfInBounds_toArray, List.set_cons_zero, List.set_cons_succ, i64_w, i32_w]
              rfl
             refine pure_ (i := 2) (N := some 65) (v := ?_) (a' := ?_) #[true, false, true, false, false, false, false, false, false, false] rfl rfl (any_of HT_.out (by kernel_rfl)) (fun _ _ _ h => h) (Or.inl ⟨by rfl, ?_⟩) ?_ ?_
             rotate_left
             ·intro w'
              go_simp
              with_reducible rfl
             rotate_left
             ·simp only [Act.put, List.setIfInBounds_toArray, List.set_cons_zero, List.set_cons_succ, i64_w, i32_w]
              rfl
             refine pure_ (i := 4) (N := some 67) (v := ?_) (a' := ?_) #[true, false, true, false, true, false, false, false, false, false] rfl rfl (any_of HT_.out (by kernel_rfl)) (fun _ _ _ h => h) (Or.inl ⟨by rfl, ?_⟩) ?_ ?_
             rotate_left
             ·intro w'
              go_simp
              with_reducible rfl
             rotate_left
             ·simp only [Act.put, List.setIfInBounds_toArray, List.set_cons_zero, List.set_cons_succ, i64_w, i32_w]
              rfl
             refine pure_ (i := 5) (N := some 68) (v := ?_) (a' := ?_) #[true, false, true, false, true, true, false, false, false, false] rfl rfl (any_of HT_.out (by kernel_rfl)) (fun _ _ _ h => h) (Or.inl ⟨by rfl, ?_⟩) ?_ ?_
             rotate_left
             ·intro w'
              go_simp
              with_reducible rfl
             rotate_left
             ·simp only [Act.put, List.setIfInBounds_toArray, List.set_cons_zero, List.set_cons_succ, i64_w, i32_w]
              rfl
             refine take_ (i := 1) (N := some 64) (v := ?_) (a' := ?_) #[true, true, true, false, true, true, false, false, false, false] rfl rfl (take_ofW HT_.out HW_.out (by kernel_rfl)) (fun _ _ _ h => h) (Or.inl ⟨by rfl, ?_⟩) hHeld ?_ ?_
             rotate_left
             ·rintro w' ⟨s0, s1⟩
              go_simp
              with_reducible rfl
             rotate_left
             ·simp only [Act.put, List.setIfInBounds_toArray, List.set_cons_zero, List.set_cons_succ, i64_w, i32_w]
              rfl
             refine take_ (i := 3) (N := some 66) (v := ?_) (a' := ?_) #[true, true, true, true, true, true, false, false, false, false] rfl rfl (take_ofW HT_.out HW_.out (by kernel_rfl)) (fun _ _ _ h => h) (Or.inl ⟨by rfl, ?_⟩) hHeld ?_ ?_
             rotate_left
             ·rintro w' ⟨s0, s1⟩
              go_simp
              with_reducible rfl
             rotate_left
             ·simp only [Act.put, List.setIfInBounds_toArray, List.set_cons_zero, List.set_cons_succ, i64_w, i32_w]
              rfl
             refine pure_ (i := 6) (N := some 69) (v := ?_) (a' := ?_) #[true, true, true, true, true, true, true, false, false, false] rfl rfl (any_of HT_.out (by kernel_rfl)) (fun _ _ _ h => h) (Or.inl ⟨by rfl, ?_⟩) ?_ ?_
             rotate_left
             ·intro w'
              go_simp
              with_reducible rfl
             rotate_left
             ·simp only [Act.put, List.setIfInBounds_toArray, List.set_cons_zero, List.set_cons_succ, i64_w, i32_w]
              rfl
             refine one_ (i := 7) (N := some 70) #[true, true, true, true, true, true, true, true, false, false] rfl rfl (one_of HT_.out (by kernel_rfl)) (by decide) (fun K hK => ?_)
             refine Kd.R_append_rows_step k42 (w0 := w) w.heap.size (by rfl) (.tmp 64) (.tmp 69) 22 42 (.agg #[(.int .i64 0), (.int .i64 0)]) 16 rfl Try.underlying22 info42 rfl (by decide) (by omega) (.slice Ao90 y294.length co90) y294 y297 _ _ _ (fun _ => True) (fun _ => False) rfl rfl ?aO ?aR (fun _ _ h => h) (fun _ h => h.elim) ?aF ?aB ?aS ?aL ?_
             (case aR => repeat (first | exact (Kd.C_below HR300.out HB.out) | (with_reducible refine Kd.C_alloc ?_ _) | (with_reducible refine Kd.C_drewN ?_ _) | (with_reducible refine Kd.C_drew ?_)))
             (case aB => exact (by repeat (first | (with_reducible first | exact HB.out | apply below_alloc | apply pw_below_drewN | apply below_drew1 | refine below_set ?_ GE281.out | refine below_set ?_ GE292.out) | exact HB.out)))
             (case aF => exact (fun _ _ => trivial))
             (case aO => exact (by (with_reducible repeat (first | apply Kd.R_alloc | apply Kd.R_drewN | apply Kd.R_drew)); exact HO296.out))
             (case aS => exact (below_size (by repeat (first | (with_reducible first | exact HB.out | apply below_alloc | apply pw_below_drewN | apply below_drew1 | refine below_set ?_ GE281.out | refine below_set ?_ GE292.out) | exact HB.out))))
             (case aL => have := LMc41.out; omega)
             intro v302 w95 ho hb hg hat
             rw [← Ny301.out] at ho
             have n0_ := Aside0.mk (blk_grown (g := gb281) (o := .cells #[.slice (some ad293) l0_0.length c0_0] 24 (0, 0)) (by (with_reducible repeat (first | refine blk_drewN ?_ _ | refine blk_drew ?_ | refine blk_alloc ?_ _)); exact BK281.out) hg (Kd.R_ne HO296.out BK281.out (by decide)))
             have n1_ := Aside0.mk (blk_grown (g := gb292) (o := .cells #[.slice Ao90 y294.length co90] 24 (0, 0)) (by (with_reducible repeat (first | refine blk_drewN ?_ _ | refine blk_drew ?_ | refine blk_alloc ?_ _)); exact BK292.out) hg (Kd.R_ne HO296.out BK292.out (by decide)))
             have n2_ := Aside0.mk (hb)
             have n3_ := Aside0.mk (ho)
             clear BK281
             clear BK292
             clear HB
             clear HO296
             have BK281 := n0_
             have BK292 := n1_
             have HB := n2_
             have HO303 := n3_
             clear n0_ n1_ n2_ n3_
             clear ho hb hg hat
             obtain ⟨Ao96, co96, eo96⟩ := Kd.R_slice HO303.out
             (first | subst eo96 | (injection eo96 with f1_ f2_ f3_; have f4_ := f1_.symm; have f5_ := f3_.symm; clear f1_ f2_ f3_; subst f4_; subst f5_))
             refine hK.out _ _ ⟨(blk_cell BK292.out 0).trans rfl, (blk_cell BK281.out 0).trans rfl⟩ (fun hHeld => ?_)
             clear hK K
             refine norm_ (a' := ?_) ?_ ?_
             rotate_left
             ·show Act.put _ (some 70) _ = _
              simp only [Act.put, List.setIfInBounds_toArray, List.set_cons_zero, List.set_cons_succ, i64_w, i32_w]
              rfl
             refine pure_ (i := 8) (N := some 71) (v := ?_) (a' := ?_) #[true, true, true, true, true, true, true, true, true, false] rfl rfl (any_of HT_.out (by kernel_rfl)) (fun _ _ _ h => h) (Or.inl ⟨by rfl, ?_⟩) ?_ ?_
             rotate_left
             ·intro w'
              go_simp
              with_reducible rfl
             rotate_left
             ·simp only [Act.put, List.setIfInBounds_toArray, List.set_cons_zero, List.set_cons_succ, i64_w, i32_w]
              rfl
             refine last_ (i := 9) (N := none) #[true, true, true, true, true, true, true, true, true, true] rfl rfl (one_of HT_.out (by kernel_rfl)) (by decide) (fun K hK => ?_)
             have hs97 : w95.cell? ⟨gb292, 0, none⟩ = some (.slice Ao90 y294.length co90) := (blk_cell BK292.out 0).trans rfl
             have hfs97 := blk_frozen BK292.out 0
             have hns97_0 := NB281_292.out
             have hms97_0 := NB292_281.out
             refine skip_ (w1 := ?_) (by rfl) rfl ?_ ?_
             rotate_left
             ·go_simp
              rfl
             refine hK.out _ _ ?_
             clear hK K
             refine done_ (done_of HT_.out (by kernel_rfl)) ?_
             have hcz98_0 : w95.cell? ⟨gb292, 0, none⟩ = some (.slice Ao90 y294.length co90) := (blk_cell BK292.out 0).trans rfl
             have hfz98_0 := blk_frozen BK292.out 0
             try go_wp2_with (first | ((with_reducible refine gate_callee (f := 26) rfl ?_); refine goesL_ (some 73) rfl rfl Try.func26 (by kernel_rfl) rfl #[.agg #[.slice Ao96 y301.length co96]] rfl (by (try simp only [List.map_toArray, List.map_cons, List.map_nil]); first | done | rfl | (simp only [List.length_drop, List.length_take]; rfl)) ?_; (with_reducible refine (tariff_Check.calls kj7 _ _ y301 t304 _ ?side1 ?side2 A42.out).mono ?_); (case side1 => refine (Kd.R_reads' (e := 42) (base := w.heap.size) (ok := fun k_ => True) (n := y301.length) (c := co96) ?_).2.2; exact (by (with_reducible repeat (first | apply Kd.R_alloc | apply Kd.R_drewN | apply Kd.R_drew)); exact (Kd.R_mono (Kd.R_far (p := ⟨gb292, 0, none⟩) (Kd.R_types HO303.out BK292.out (by decide)) (fun _ hk => hk.2) (.slice Ao96 y301.length co96)) (fun _ h_ => h_.1)))); (case side2 => exact (Kd.R_reads' HO303.out).2.1); rintro e w99 ⟨rfl, hb⟩; refine ⟨_, rfl, ?_⟩; have n0_ := Aside0.mk (Kd.R_below (by (with_reducible repeat (first | apply Kd.R_alloc | apply Kd.R_drewN | apply Kd.R_drew)); exact (Kd.R_mono (Kd.R_far (p := ⟨gb292, 0, none⟩) (Kd.R_types HO303.out BK292.out (by decide)) (fun _ hk => hk.2) (.slice Ao96 y301.length co96)) (fun _ h_ => h_.1))) hb); have n1_ := Aside0.mk (blk_below (g := gb281) (o := .cells #[.slice (some ad293) l0_0.length c0_0] 24 (0, 0)) (by (with_reducible repeat (first | refine blk_drewN ?_ _ | refine blk_drew ?_ | refine blk_alloc ?_ _)); refine blk_far ?_ NB281_292.out _; (with_reducible repeat (first | refine blk_drewN ?_ _ | refine blk_drew ?_ | refine blk_alloc ?_ _)); exact BK281.out) hb); have n2_ := Aside0.mk (blk_below (g := gb292) (o := .cells #[.slice Ao96 y301.length co96] 24 (0, 0)) (by (with_reducible repeat (first | refine blk_drewN ?_ _ | refine blk_drew ?_ | refine blk_alloc ?_ _)); refine blk_put (cs := #[.slice Ao90 y294.length co90]) ?_ 0 _ rfl; (with_reducible repeat (first | refine blk_drewN ?_ _ | refine blk_drew ?_ | refine blk_alloc ?_ _)); exact BK292.out) hb); have n3_ := Aside0.mk (below_step (by repeat (first | (with_reducible first | exact HB.out | apply below_alloc | apply pw_below_drewN | apply below_drew1 | refine below_set ?_ GE281.out | refine below_set ?_ GE292.out) | exact HB.out)) hb); clear HO303; clear BK281; clear BK292; clear HB; have HO303 := n0_; have BK281 := n1_; have BK292 := n2_; have HB := n3_; clear n0_ n1_ n2_ n3_; (try clear hb); (try clear hb2); (try clear hk); (try clear hi)))
             go_ret
             exact ⟨by first | rfl | (simp [errW_none, errW_some] <;> rfl) | (simp only [← hji32]; first | rfl | (simp [errW_none, errW_some] <;> rfl)) | (simp [*, errW_none, errW_some] <;> rfl), by repeat (first | (with_reducible first | exact HB.out | apply below_alloc | apply pw_below_drewN | apply below_drew1 | refine below_set ?_ GE281.out | refine below_set ?_ GE292.out) | exact HB.out)⟩
           ·rw [if_neg c41] at H
            exact absurd H (by simp)
          ·rw [if_neg c38] at H
           exact absurd H (by simp)
         ·rw [if_neg c37] at H
          exact absurd H (by simp)
        ·rw [if_neg c36] at H
         exact absurd H (by simp)
       ·rw [if_neg c35] at H
        exact absurd H (by simp)
      ·rw [if_neg c34] at H
       exact absurd H (by simp)
     ·rw [if_neg c33] at H
      exact absurd H (by simp)
 ·replace c7 := Bool.eq_false_iff.mpr c7
  subst c7
  have H1 : (some false) = some r := by rw [if_neg (show ¬ (false = true) by decide)] at H; exact H
  clear H
  have H := H1
  clear H1
  exact absurd ((Option.some.inj H).trans HT_TRUE.out) (by simp)

end Go.Proofs.Ytldpacphackdjaa.Print
