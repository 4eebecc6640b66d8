/- That the call of function 19 (crossbarlaw26_TariffCutsByTimers) answers what the Lean function of the same name answers, at every input at which that one answers. (Written by a program of the session, which drives the kit's printer.) -/
import Derived.Test.YtldpacphackdjaaHTExpire
import Derived.Test.YtldpacphackdjaaHTSet
import Derived.Test.YtldpacphackdjaaK0
import Derived.Test.YtldpacphackdjaaFT
import Derived.Test.YtldpacphackdjaaFP
import Derived.Test.YtldpacphackdjaaF20
import Derived.Test.YtldpacphackdjaaF38
namespace Go.Proofs.Ytldpacphackdjaa.Print
open Go.RowKit Go.Proofs.YtldpacphackdjaaW.PrintWords Go.Proofs.YtldpacphackdjaaW.PrintLast Go.Proofs.YtldpacphackdjaaW.PrintMore
attribute [local go_sem] max2_int min2_int max_two min_two max_three min_three max_four min_four   -- for this text's walks alone
set_option linter.unusedVariables false
set_option linter.unusedSimpArgs false

/-! ### crossbarlaw26_TariffCutsByTimers: function 19 -/
mutual
def crossbarlaw26_TariffCutsByTimers.j0 : Nat → Int → Int → Bool → List (S42) → Option (Bool)
 | 0, _, _, _, _ => none
 | k + 1, x1, x2, x45, x700000 => if x45 = true then (some true) else ((tariff_Price.f k x700000 x1 (wrap64 (x1 + (wrap64 (x2))))).bind fun bt703 => (if bt703.2 = 0 then (crossbarlaw26_TariffCutsByTimers.l0 k (wrap64 (x1 + (wrap64 (x2)))) bt703.1 0 x1 0 x700000) else (some false)))
def crossbarlaw26_TariffCutsByTimers.l0 : Nat → Int → Int → Int → Int → Int → List (S42) → Option (Bool)
 | 0, _, _, _, _, _, _ => none
 | k + 1, x7, x8, x10, x11, x60, x700000 => if x60 < 200 then ((tariff_Change.f k x700000 x11).bind fun bt705 => ((tariff_Rate.f k x700000 x11).bind fun bt708 => (if bt705.2.2 = 0 then (crossbarlaw26_TariffCutsByTimers.j2 k x7 x8 x10 x11 bt705.1 bt705.2.1 bt708.1 x60 (bt708.2 != 0) x700000) else (crossbarlaw26_TariffCutsByTimers.j2 k x7 x8 x10 x11 bt705.1 bt705.2.1 bt708.1 x60 true x700000)))) else (some false)
def crossbarlaw26_TariffCutsByTimers.j2 : Nat → Int → Int → Int → Int → Int → Bool → Int → Int → Bool → List (S42) → Option (Bool)
 | 0, _, _, _, _, _, _, _, _, _, _ => none
 | k + 1, x7, x8, x10, x11, x12, x13, x15, x60, x80, x700000 => if x80 = true then (some false) else (if x13 = true then (crossbarlaw26_TariffCutsByTimers.j3 k x7 x8 x10 x11 x12 x15 x60 (decide (x12 ≥ x7)) x700000) else (crossbarlaw26_TariffCutsByTimers.j3 k x7 x8 x10 x11 x12 x15 x60 true x700000))
def crossbarlaw26_TariffCutsByTimers.j3 : Nat → Int → Int → Int → Int → Int → Int → Int → Bool → List (S42) → Option (Bool)
 | 0, _, _, _, _, _, _, _, _, _ => none
 | k + 1, x7, x8, x10, x11, x12, x15, x60, x87, x700000 => if x87 = true then (some ((wrap64 (x10 + (wrap64 ((wrap64 (x7 - x11)) * x15)))) == x8)) else ((timers_Set.f ([] : List (S64)) 1 x12).bind fun bt710 => ((timers_Next.f bt710.1).bind fun bt715 => ((timers_Expire.f bt710.1 (wrap64 (x12 - 1))).bind fun bt717 => (if bt710.2 = 0 then (if bt717.2.2 = 0 then (if bt715.2 = true then (if (bt717.2.1.length : Int) = 0 then (if bt715.1 ≤ x11 then (some false) else (crossbarlaw26_TariffCutsByTimers.l0 k x7 x8 (wrap64 (x10 + (wrap64 ((wrap64 (bt715.1 - x11)) * x15)))) bt715.1 (wrap64 (x60 + 1)) x700000)) else (some false)) else (some false)) else (some false)) else (some false)))))
end
def crossbarlaw26_TariffCutsByTimers.f (k : Nat) (l0_0 : List (S42)) (a1 : Int) (a2 : Int) : Option (Bool) := (crossbarlaw26_sane.f k).bind fun t700 => (if t700 = true then ((crossbarref26_Few.f l0_0).bind fun t701 => (if t701 = true then (if a2 > 400000 then (crossbarlaw26_TariffCutsByTimers.j0 k a1 a2 true l0_0) else (if a1 < 0 then (crossbarlaw26_TariffCutsByTimers.j0 k a1 a2 true l0_0) else (if a1 > 1099510627776 then (crossbarlaw26_TariffCutsByTimers.j0 k a1 a2 true l0_0) else ((tariff_Check.f k l0_0).bind fun t702 => (crossbarlaw26_TariffCutsByTimers.j0 k a1 a2 (t702 != 0) l0_0))))) else (crossbarlaw26_TariffCutsByTimers.j0 k a1 a2 true l0_0))) else (some false))
theorem crossbarlaw26_TariffCutsByTimers.mono_l : ∀ k, (∀ y0 y1 y2 y3, LeO (crossbarlaw26_TariffCutsByTimers.j0 k y0 y1 y2 y3) (crossbarlaw26_TariffCutsByTimers.j0 (k + 1) y0 y1 y2 y3)) ∧ (∀ y0 y1 y2 y3 y4 y5, LeO (crossbarlaw26_TariffCutsByTimers.l0 k y0 y1 y2 y3 y4 y5) (crossbarlaw26_TariffCutsByTimers.l0 (k + 1) y0 y1 y2 y3 y4 y5)) ∧ (∀ y0 y1 y2 y3 y4 y5 y6 y7 y8 y9, LeO (crossbarlaw26_TariffCutsByTimers.j2 k y0 y1 y2 y3 y4 y5 y6 y7 y8 y9) (crossbarlaw26_TariffCutsByTimers.j2 (k + 1) y0 y1 y2 y3 y4 y5 y6 y7 y8 y9)) ∧ (∀ y0 y1 y2 y3 y4 y5 y6 y7 y8, LeO (crossbarlaw26_TariffCutsByTimers.j3 k y0 y1 y2 y3 y4 y5 y6 y7 y8) (crossbarlaw26_TariffCutsByTimers.j3 (k + 1) y0 y1 y2 y3 y4 y5 y6 y7 y8))
 | 0 => ⟨fun _ _ _ _ r h => by simp [crossbarlaw26_TariffCutsByTimers.j0] at h, fun _ _ _ _ _ _ r h => by simp [crossbarlaw26_TariffCutsByTimers.l0] at h, fun _ _ _ _ _ _ _ _ _ _ r h => by simp [crossbarlaw26_TariffCutsByTimers.j2] at h, fun _ _ _ _ _ _ _ _ _ r h => by simp [crossbarlaw26_TariffCutsByTimers.j3] at h⟩
 | k + 1 => by
  obtain ⟨ih0, ih1, ih2, ih3⟩ := crossbarlaw26_TariffCutsByTimers.mono_l k
  refine ⟨?_, ?_, ?_, ?_⟩
  ·intro y0 y1 y2 y3
   unfold crossbarlaw26_TariffCutsByTimers.j0
   repeat' first
   | (with_reducible exact ih0 _ _ _ _)
   | (with_reducible exact ih1 _ _ _ _ _ _)
   | (with_reducible exact ih2 _ _ _ _ _ _ _ _ _ _)
   | (with_reducible exact ih3 _ _ _ _ _ _ _ _ _)
   | (with_reducible exact crossbarlaw26_sane.mono _)
   | (with_reducible exact tariff_Change.mono _ _ _)
   | (with_reducible exact tariff_Check.mono _ _)
   | (with_reducible exact tariff_Price.mono _ _ _ _)
   | (with_reducible exact tariff_Rate.mono _ _ _)
   | (with_reducible exact LeO.refl _)
   | (with_reducible exact LeO.none _)
   | (with_reducible refine LeO.ite ?_ ?_)
   | (with_reducible refine LeO.bind ?_ (fun _ => ?_))
   | exact ih0 _ _ _ _
   | exact ih1 _ _ _ _ _ _
   | exact ih2 _ _ _ _ _ _ _ _ _ _
   | exact ih3 _ _ _ _ _ _ _ _ _
   | exact crossbarlaw26_sane.mono _
   | exact tariff_Change.mono _ _ _
   | exact tariff_Check.mono _ _
   | exact tariff_Price.mono _ _ _ _
   | exact tariff_Rate.mono _ _ _
   | exact LeO.none _
   | refine LeO.ite ?_ ?_
   | refine LeO.bind ?_ (fun _ => ?_)
  ·intro y0 y1 y2 y3 y4 y5
   unfold crossbarlaw26_TariffCutsByTimers.l0
   repeat' first
   | (with_reducible exact ih0 _ _ _ _)
   | (with_reducible exact ih1 _ _ _ _ _ _)
   | (with_reducible exact ih2 _ _ _ _ _ _ _ _ _ _)
   | (with_reducible exact ih3 _ _ _ _ _ _ _ _ _)
   | (with_reducible exact crossbarlaw26_sane.mono _)
   | (with_reducible exact tariff_Change.mono _ _ _)
   | (with_reducible exact tariff_Check.mono _ _)
   | (with_reducible exact tariff_Price.mono _ _ _ _)
   | (with_reducible exact tariff_Rate.mono _ _ _)
   | (with_reducible exact LeO.refl _)
   | (with_reducible exact LeO.none _)
   | (with_reducible refine LeO.ite ?_ ?_)
   | (with_reducible refine LeO.bind ?_ (fun _ => ?_))
   | exact ih0 _ _ _ _
   | exact ih1 _ _ _ _ _ _
   | exact ih2 _ _ _ _ _ _ _ _ _ _
   | exact ih3 _ _ _ _ _ _ _ _ _
   | exact crossbarlaw26_sane.mono _
   | exact tariff_Change.mono _ _ _
   | exact tariff_Check.mono _ _
   | exact tariff_Price.mono _ _ _ _
   | exact tariff_Rate.mono _ _ _
   | exact LeO.none _
   | refine LeO.ite ?_ ?_
   | refine LeO.bind ?_ (fun _ => ?_)
  ·intro y0 y1 y2 y3 y4 y5 y6 y7 y8 y9
   unfold crossbarlaw26_TariffCutsByTimers.j2
   repeat' first
   | (with_reducible exact ih0 _ _ _ _)
   | (with_reducible exact ih1 _ _ _ _ _ _)
   | (with_reducible exact ih2 _ _ _ _ _ _ _ _ _ _)
   | (with_reducible exact ih3 _ _ _ _ _ _ _ _ _)
   | (with_reducible exact crossbarlaw26_sane.mono _)
   | (with_reducible exact tariff_Change.mono _ _ _)
   | (with_reducible exact tariff_Check.mono _ _)
   | (with_reducible exact tariff_Price.mono _ _ _ _)
   | (with_reducible exact tariff_Rate.mono _ _ _)
   | (with_reducible exact LeO.refl _)
   | (with_reducible exact LeO.none _)
   | (with_reducible refine LeO.ite ?_ ?_)
   | (with_reducible refine LeO.bind ?_ (fun _ => ?_))
   | exact ih0 _ _ _ _
   | exact ih1 _ _ _ _ _ _
   | exact ih2 _ _ _ _ _ _ _ _ _ _
   | exact ih3 _ _ _ _ _ _ _ _ _
   | exact crossbarlaw26_sane.mono _
   | exact tariff_Change.mono _ _ _
   | exact tariff_Check.mono _ _
   | exact tariff_Price.mono _ _ _ _
   | exact tariff_Rate.mono _ _ _
   | exact LeO.none _
   | refine LeO.ite ?_ ?_
   | refine LeO.bind ?_ (fun _ => ?_)
  ·intro y0 y1 y2 y3 y4 y5 y6 y7 y8
   unfold crossbarlaw26_TariffCutsByTimers.j3
   repeat' first
   | (with_reducible exact ih0 _ _ _ _)
   | (with_reducible exact ih1 _ _ _ _ _ _)
   | (with_reducible exact ih2 _ _ _ _ _ _ _ _ _ _)
   | (with_reducible exact ih3 _ _ _ _ _ _ _ _ _)
   | (with_reducible exact crossbarlaw26_sane.mono _)
   | (with_reducible exact tariff_Change.mono _ _ _)
   | (with_reducible exact tariff_Check.mono _ _)
   | (with_reducible exact tariff_Price.mono _ _ _ _)
   | (with_reducible exact tariff_Rate.mono _ _ _)
   | (with_reducible exact LeO.refl _)
   | (with_reducible exact LeO.none _)
   | (with_reducible refine LeO.ite ?_ ?_)
   | (with_reducible refine LeO.bind ?_ (fun _ => ?_))
   | exact ih0 _ _ _ _
   | exact ih1 _ _ _ _ _ _
   | exact ih2 _ _ _ _ _ _ _ _ _ _
   | exact ih3 _ _ _ _ _ _ _ _ _
   | exact crossbarlaw26_sane.mono _
   | exact tariff_Change.mono _ _ _
   | exact tariff_Check.mono _ _
   | exact tariff_Price.mono _ _ _ _
   | exact tariff_Rate.mono _ _ _
   | exact LeO.none _
   | refine LeO.ite ?_ ?_
   | refine LeO.bind ?_ (fun _ => ?_)
theorem crossbarlaw26_TariffCutsByTimers.mono : ∀ a0 a1 a2 k, LeO (crossbarlaw26_TariffCutsByTimers.f k a0 a1 a2) (crossbarlaw26_TariffCutsByTimers.f (k + 1) a0 a1 a2) := by
 intro a0 a1 a2 k
 obtain ⟨ih0, ih1, ih2, ih3⟩ := crossbarlaw26_TariffCutsByTimers.mono_l k
 unfold crossbarlaw26_TariffCutsByTimers.f
 repeat' first
   | (with_reducible exact ih0 _ _ _ _)
   | (with_reducible exact ih1 _ _ _ _ _ _)
   | (with_reducible exact ih2 _ _ _ _ _ _ _ _ _ _)
   | (with_reducible exact ih3 _ _ _ _ _ _ _ _ _)
   | (with_reducible exact crossbarlaw26_sane.mono _)
   | (with_reducible exact tariff_Change.mono _ _ _)
   | (with_reducible exact tariff_Check.mono _ _)
   | (with_reducible exact tariff_Price.mono _ _ _ _)
   | (with_reducible exact tariff_Rate.mono _ _ _)
   | (with_reducible exact LeO.refl _)
   | (with_reducible exact LeO.none _)
   | (with_reducible refine LeO.ite ?_ ?_)
   | (with_reducible refine LeO.bind ?_ (fun _ => ?_))
   | exact ih0 _ _ _ _
   | exact ih1 _ _ _ _ _ _
   | exact ih2 _ _ _ _ _ _ _ _ _ _
   | exact ih3 _ _ _ _ _ _ _ _ _
   | exact crossbarlaw26_sane.mono _
   | exact tariff_Change.mono _ _ _
   | exact tariff_Check.mono _ _
   | exact tariff_Price.mono _ _ _ _
   | exact tariff_Rate.mono _ _ _
   | exact LeO.none _
   | refine LeO.ite ?_ ?_
   | refine LeO.bind ?_ (fun _ => ?_)
set_option maxHeartbeats 8000000 in
set_option maxRecDepth 100000 in
theorem crossbarlaw26_TariffCutsByTimers.calls (k : Nat) (A0_0 : Option Addr) (c0_0 : Nat) (l0_0 : List (S42)) (a1 : Int) (a2 : Int) (r : Bool) (w : World) (hr0_0 : Kd.C k42 w A0_0 l0_0.length l0_0) (hc0_0 : l0_0.length ≤ c0_0) (h : crossbarlaw26_TariffCutsByTimers.f k l0_0 a1 a2 = some r) (hT : r = true := by rfl) :
  Calls Try.prog 19 #[.agg #[.slice A0_0 l0_0.length c0_0], .int .i64 a1, .int .u32 a2] w fun e w' => e = .returned (.bool r) ∧ Below w.heap.size w w' := by
 have HT_TRUE := Aside0.mk hT
 clear hT
 have hu24 := Try.underlying24
 have hu45 := Try.underlying45
 have HR0_0 := Aside0.mk hr0_0
 have HC0_0 := Aside0.mk hc0_0
 clear hr0_0 hc0_0
 have HB := Aside0.mk (Below.refl w.heap.size w)
 have H : ((crossbarlaw26_sane.f k).bind fun t700 => (if t700 = true then ((crossbarref26_Few.f l0_0).bind fun t701 => (if t701 = true then (if a2 > 400000 then (crossbarlaw26_TariffCutsByTimers.j0 k a1 a2 true l0_0) else (if a1 < 0 then (crossbarlaw26_TariffCutsByTimers.j0 k a1 a2 true l0_0) else (if a1 > 1099510627776 then (crossbarlaw26_TariffCutsByTimers.j0 k a1 a2 true l0_0) else ((tariff_Check.f k l0_0).bind fun t702 => (crossbarlaw26_TariffCutsByTimers.j0 k a1 a2 (t702 != 0) l0_0))))) else (crossbarlaw26_TariffCutsByTimers.j0 k a1 a2 true l0_0))) else (some false))) = some r := h
 clear h
 replace H := Option.bind_eq_some_iff.mp H
 obtain ⟨t700, A40, H⟩ := H
 replace H : (if t700 = true then ((crossbarref26_Few.f l0_0).bind fun t701 => (if t701 = true then (if a2 > 400000 then (crossbarlaw26_TariffCutsByTimers.j0 k a1 a2 true l0_0) else (if a1 < 0 then (crossbarlaw26_TariffCutsByTimers.j0 k a1 a2 true l0_0) else (if a1 > 1099510627776 then (crossbarlaw26_TariffCutsByTimers.j0 k a1 a2 true l0_0) else ((tariff_Check.f k l0_0).bind fun t702 => (crossbarlaw26_TariffCutsByTimers.j0 k a1 a2 (t702 != 0) l0_0))))) else (crossbarlaw26_TariffCutsByTimers.j0 k a1 a2 true l0_0))) else (some false)) = some r := H
 have A4 := Aside0.mk A40
 clear A40
 by_cases c5 : t700 = true
 ·subst c5
  have H1 : ((crossbarref26_Few.f l0_0).bind fun t701 => (if t701 = true then (if a2 > 400000 then (crossbarlaw26_TariffCutsByTimers.j0 k a1 a2 true l0_0) else (if a1 < 0 then (crossbarlaw26_TariffCutsByTimers.j0 k a1 a2 true l0_0) else (if a1 > 1099510627776 then (crossbarlaw26_TariffCutsByTimers.j0 k a1 a2 true l0_0) else ((tariff_Check.f k l0_0).bind fun t702 => (crossbarlaw26_TariffCutsByTimers.j0 k a1 a2 (t702 != 0) l0_0))))) else (crossbarlaw26_TariffCutsByTimers.j0 k a1 a2 true l0_0))) = some r := by rw [if_pos rfl] at H; exact H
  clear H
  have H := H1
  clear H1
  have HC6 := Aside0.mk H
  clear H
  go_enter Try.func19, Try.ntmps19
  go_upto_region 3 with (first | ((with_reducible refine gate_dst (N := 3) rfl ?_); (try (refine gate_guard (by rfl) ?_; dsimp only)); refine box_event ?hg (N := 3) ?hd (cs := #[.slice A0_0 l0_0.length c0_0]) (t := 24) ?hr ?_; (case hd => rfl); (case hg => rfl); (case hr => first | (go_simp; done) | (go_simp; rfl)); intro gb699 hg w7 hbox hb; have n0_ := Aside0.mk (below_step (by repeat (first | (with_reducible first | exact HB.out | apply below_alloc | apply pw_below_drewN | apply below_drew1) | exact HB.out)) hb); have n1_ := Aside0.mk (hbox); have n2_ := Aside0.mk ((by rw [hg]; exact (below_size (by repeat (first | (with_reducible first | exact HB.out | apply below_alloc | apply pw_below_drewN | apply below_drew1) | exact HB.out))) : w.heap.size ≤ gb699)); have n3_ := Aside0.mk ((by rw [hg]; exact (below_size (by repeat (first | (with_reducible first | exact HB.out | apply below_alloc | apply pw_below_drewN | apply below_drew1) | exact HB.out))) : w.heap.size ≤ gb699)); clear HB; have HB := n0_; have BK699 := n1_; have GW699 := n2_; have GE699 := n3_; clear n0_ n1_ n2_ n3_; clear hb hbox hg) | ((with_reducible refine gate_callee (f := 20) rfl ?_); refine goesL_ (some 24) rfl rfl Try.func20 (by kernel_rfl) rfl #[] rfl (by (try simp only [List.map_toArray, List.map_cons, List.map_nil]); first | done | rfl | (simp only [List.length_drop, List.length_take]; rfl)) ?_; (with_reducible refine (crossbarlaw26_sane.calls k  true _ A4.out).mono ?_); rintro e w8 ⟨rfl, hb⟩; refine ⟨_, rfl, ?_⟩; have n0_ := Aside0.mk (blk_below (g := gb699) (o := .cells #[.slice A0_0 l0_0.length c0_0] 24 (0, 0)) (by (with_reducible repeat (first | refine blk_drewN ?_ _ | refine blk_drew ?_ | refine blk_alloc ?_ _)); exact BK699.out) hb); have n1_ := Aside0.mk (below_step (by repeat (first | (with_reducible first | exact HB.out | apply below_alloc | apply pw_below_drewN | apply below_drew1 | refine below_set ?_ GE699.out) | exact HB.out)) hb); clear BK699; clear HB; have BK699 := n0_; have HB := n1_; clear n0_ n1_; (try clear hb); (try clear hb2); (try clear hk); (try clear hi)))
  (try simp only [Act.put, List.setIfInBounds_toArray, List.set_cons_zero, List.set_cons_succ])
  go_cut [45] (fun v45 wc => ∃ (kq : Nat) (x45_5 : Bool), v45 = .bool x45_5 ∧ Aside0 (crossbarlaw26_TariffCutsByTimers.j0 kq a1 a2 x45_5 l0_0 = some r) ∧ Aside0 (kq ≤ k) ∧ Aside0 (wc.heap[gb699]? = some (.cells #[(.slice A0_0 l0_0.length c0_0)] 24 (0, 0))) ∧ Aside0 (Below w.heap.size w wc))
  case first =>
   have H := HC6.out
   clear HC6
   replace H := Option.bind_eq_some_iff.mp H
   obtain ⟨t701, A90, H⟩ := H
   replace H : (if t701 = true then (if a2 > 400000 then (crossbarlaw26_TariffCutsByTimers.j0 k a1 a2 true l0_0) else (if a1 < 0 then (crossbarlaw26_TariffCutsByTimers.j0 k a1 a2 true l0_0) else (if a1 > 1099510627776 then (crossbarlaw26_TariffCutsByTimers.j0 k a1 a2 true l0_0) else ((tariff_Check.f k l0_0).bind fun t702 => (crossbarlaw26_TariffCutsByTimers.j0 k a1 a2 (t702 != 0) l0_0))))) else (crossbarlaw26_TariffCutsByTimers.j0 k a1 a2 true l0_0)) = some r := H
   have A9 := Aside0.mk A90
   clear A90
   by_cases c10 : t701 = true
   ·subst c10
    have H1 : (if a2 > 400000 then (crossbarlaw26_TariffCutsByTimers.j0 k a1 a2 true l0_0) else (if a1 < 0 then (crossbarlaw26_TariffCutsByTimers.j0 k a1 a2 true l0_0) else (if a1 > 1099510627776 then (crossbarlaw26_TariffCutsByTimers.j0 k a1 a2 true l0_0) else ((tariff_Check.f k l0_0).bind fun t702 => (crossbarlaw26_TariffCutsByTimers.j0 k a1 a2 (t702 != 0) l0_0))))) = some r := by rw [if_pos rfl] at H; exact H
    clear H
    have H := H1
    clear H1
    by_cases c11 : a2 > 400000
    ·rw [if_pos c11] at H
     have c11b0 : decide (400000 < a2) = true := decide_eq_true c11
     clear c11
     (first | rw [c11b0] | (simp only [i64_w, i32_w]; rw [c11b0]) | skip)
     have H' := Aside0.mk H
     clear H
     have hcz12_0 : w8.cell? ⟨gb699, 0, none⟩ = some (.slice A0_0 l0_0.length c0_0) := (blk_cell BK699.out 0).trans rfl
     have hfz12_0 := blk_frozen BK699.out 0
     go_wp2_with (first | ((with_reducible refine gate_callee (f := 21) rfl ?_); refine goesL_ (some 27) rfl rfl Try.func21 (by kernel_rfl) rfl #[.agg #[.slice A0_0 l0_0.length c0_0]] rfl (by (try simp only [List.map_toArray, List.map_cons, List.map_nil]); first | done | rfl | (simp only [List.length_drop, List.length_take]; rfl)) ?_; (with_reducible refine (crossbarref26_Few.calls _ _ l0_0 true _ ?side1 ?side2 A9.out).mono ?_); (case side1 => repeat (first | exact (Kd.C_below HR0_0.out HB.out) | (with_reducible refine Kd.C_alloc ?_ _) | (with_reducible refine Kd.C_drewN ?_ _) | (with_reducible refine Kd.C_drew ?_))); (case side2 => exact HC0_0.out); rintro e w13 ⟨rfl, hb⟩; refine ⟨_, rfl, ?_⟩; have n0_ := Aside0.mk (blk_below (g := gb699) (o := .cells #[.slice A0_0 l0_0.length c0_0] 24 (0, 0)) (by (with_reducible repeat (first | refine blk_drewN ?_ _ | refine blk_drew ?_ | refine blk_alloc ?_ _)); exact BK699.out) hb); have n1_ := Aside0.mk (below_step (by repeat (first | (with_reducible first | exact HB.out | apply below_alloc | apply pw_below_drewN | apply below_drew1 | refine below_set ?_ GE699.out) | exact HB.out)) hb); clear BK699; clear HB; have BK699 := n0_; have HB := n1_; clear n0_ n1_; (try clear hb); (try clear hb2); (try clear hk); (try clear hi)))
     go_meet
     case rel => exact ⟨_, (true), (by first | rfl | (simp; done) | (simp [*]; done)), H', ⟨by first | omega | exact Nat.le_refl _⟩, ⟨by (with_reducible repeat (first | refine blk_drewN ?_ _ | refine blk_drew ?_ | refine blk_alloc ?_ _)); exact BK699.out⟩, ⟨by repeat (first | (with_reducible first | exact HB.out | apply below_alloc | apply pw_below_drewN | apply below_drew1 | refine below_set ?_ GE699.out) | exact HB.out)⟩⟩
    ·rw [if_neg c11] at H
     have c11b0 : decide (400000 < a2) = false := decide_eq_false c11
     clear c11
     (first | rw [c11b0] | (simp only [i64_w, i32_w]; rw [c11b0]) | skip)
     by_cases c14 : a1 < 0
     ·rw [if_pos c14] at H
      have c14b0 : decide (a1 < 0) = true := decide_eq_true c14
      clear c14
      have H' := Aside0.mk H
      clear H
      have hcz15_0 : w8.cell? ⟨gb699, 0, none⟩ = some (.slice A0_0 l0_0.length c0_0) := (blk_cell BK699.out 0).trans rfl
      have hfz15_0 := blk_frozen BK699.out 0
      go_wp2_with (first | ((with_reducible refine gate_callee (f := 21) rfl ?_); refine goesL_ (some 27) rfl rfl Try.func21 (by kernel_rfl) rfl #[.agg #[.slice A0_0 l0_0.length c0_0]] rfl (by (try simp only [List.map_toArray, List.map_cons, List.map_nil]); first | done | rfl | (simp only [List.length_drop, List.length_take]; rfl)) ?_; (with_reducible refine (crossbarref26_Few.calls _ _ l0_0 true _ ?side1 ?side2 A9.out).mono ?_); (case side1 => repeat (first | exact (Kd.C_below HR0_0.out HB.out) | (with_reducible refine Kd.C_alloc ?_ _) | (with_reducible refine Kd.C_drewN ?_ _) | (with_reducible refine Kd.C_drew ?_))); (case side2 => exact HC0_0.out); rintro e w16 ⟨rfl, hb⟩; refine ⟨_, rfl, ?_⟩; have n0_ := Aside0.mk (blk_below (g := gb699) (o := .cells #[.slice A0_0 l0_0.length c0_0] 24 (0, 0)) (by (with_reducible repeat (first | refine blk_drewN ?_ _ | refine blk_drew ?_ | refine blk_alloc ?_ _)); exact BK699.out) hb); have n1_ := Aside0.mk (below_step (by repeat (first | (with_reducible first | exact HB.out | apply below_alloc | apply pw_below_drewN | apply below_drew1 | refine below_set ?_ GE699.out) | exact HB.out)) hb); clear BK699; clear HB; have BK699 := n0_; have HB := n1_; clear n0_ n1_; (try clear hb); (try clear hb2); (try clear hk); (try clear hi)))
      go_meet
      case rel => exact ⟨_, (true), (by first | rfl | (simp; done) | (simp [*]; done)), H', ⟨by first | omega | exact Nat.le_refl _⟩, ⟨by (with_reducible repeat (first | refine blk_drewN ?_ _ | refine blk_drew ?_ | refine blk_alloc ?_ _)); exact BK699.out⟩, ⟨by repeat (first | (with_reducible first | exact HB.out | apply below_alloc | apply pw_below_drewN | apply below_drew1 | refine below_set ?_ GE699.out) | exact HB.out)⟩⟩
     ·rw [if_neg c14] at H
      have c14b0 : decide (a1 < 0) = false := decide_eq_false c14
      clear c14
      by_cases c17 : a1 > 1099510627776
      ·rw [if_pos c17] at H
       have c17b0 : decide (1099510627776 < a1) = true := decide_eq_true c17
       clear c17
       have H' := Aside0.mk H
       clear H
       have hcz18_0 : w8.cell? ⟨gb699, 0, none⟩ = some (.slice A0_0 l0_0.length c0_0) := (blk_cell BK699.out 0).trans rfl
       have hfz18_0 := blk_frozen BK699.out 0
       go_wp2_with (first | ((with_reducible refine gate_callee (f := 21) rfl ?_); refine goesL_ (some 27) rfl rfl Try.func21 (by kernel_rfl) rfl #[.agg #[.slice A0_0 l0_0.length c0_0]] rfl (by (try simp only [List.map_toArray, List.map_cons, List.map_nil]); first | done | rfl | (simp only [List.length_drop, List.length_take]; rfl)) ?_; (with_reducible refine (crossbarref26_Few.calls _ _ l0_0 true _ ?side1 ?side2 A9.out).mono ?_); (case side1 => repeat (first | exact (Kd.C_below HR0_0.out HB.out) | (with_reducible refine Kd.C_alloc ?_ _) | (with_reducible refine Kd.C_drewN ?_ _) | (with_reducible refine Kd.C_drew ?_))); (case side2 => exact HC0_0.out); rintro e w19 ⟨rfl, hb⟩; refine ⟨_, rfl, ?_⟩; have n0_ := Aside0.mk (blk_below (g := gb699) (o := .cells #[.slice A0_0 l0_0.length c0_0] 24 (0, 0)) (by (with_reducible repeat (first | refine blk_drewN ?_ _ | refine blk_drew ?_ | refine blk_alloc ?_ _)); exact BK699.out) hb); have n1_ := Aside0.mk (below_step (by repeat (first | (with_reducible first | exact HB.out | apply below_alloc | apply pw_below_drewN | apply below_drew1 | refine below_set ?_ GE699.out) | exact HB.out)) hb); clear BK699; clear HB; have BK699 := n0_; have HB := n1_; clear n0_ n1_; (try clear hb); (try clear hb2); (try clear hk); (try clear hi)))
       go_meet
       case rel => exact ⟨_, (true), (by first | rfl | (simp; done) | (simp [*]; done)), H', ⟨by first | omega | exact Nat.le_refl _⟩, ⟨by (with_reducible repeat (first | refine blk_drewN ?_ _ | refine blk_drew ?_ | refine blk_alloc ?_ _)); exact BK699.out⟩, ⟨by repeat (first | (with_reducible first | exact HB.out | apply below_alloc | apply pw_below_drewN | apply below_drew1 | refine below_set ?_ GE699.out) | exact HB.out)⟩⟩
      ·rw [if_neg c17] at H
       have c17b0 : decide (1099510627776 < a1) = false := decide_eq_false c17
       clear c17
       replace H := Option.bind_eq_some_iff.mp H
       obtain ⟨t702, A200, H⟩ := H
       replace H : (crossbarlaw26_TariffCutsByTimers.j0 k a1 a2 (t702 != 0) l0_0) = some r := H
       have A20 := Aside0.mk A200
       clear A200
       have H' := Aside0.mk H
       clear H
       have hcz21_0 : w8.cell? ⟨gb699, 0, none⟩ = some (.slice A0_0 l0_0.length c0_0) := (blk_cell BK699.out 0).trans rfl
       have hfz21_0 := blk_frozen BK699.out 0
       go_wp2_with (first | ((with_reducible refine gate_callee (f := 21) rfl ?_); refine goesL_ (some 27) rfl rfl Try.func21 (by kernel_rfl) rfl #[.agg #[.slice A0_0 l0_0.length c0_0]] rfl (by (try simp only [List.map_toArray, List.map_cons, List.map_nil]); first | done | rfl | (simp only [List.length_drop, List.length_take]; rfl)) ?_; (with_reducible refine (crossbarref26_Few.calls _ _ l0_0 true _ ?side1 ?side2 A9.out).mono ?_); (case side1 => repeat (first | exact (Kd.C_below HR0_0.out HB.out) | (with_reducible refine Kd.C_alloc ?_ _) | (with_reducible refine Kd.C_drewN ?_ _) | (with_reducible refine Kd.C_drew ?_))); (case side2 => exact HC0_0.out); rintro e w22 ⟨rfl, hb⟩; refine ⟨_, rfl, ?_⟩; have n0_ := Aside0.mk (blk_below (g := gb699) (o := .cells #[.slice A0_0 l0_0.length c0_0] 24 (0, 0)) (by (with_reducible repeat (first | refine blk_drewN ?_ _ | refine blk_drew ?_ | refine blk_alloc ?_ _)); exact BK699.out) hb); have n1_ := Aside0.mk (below_step (by repeat (first | (with_reducible first | exact HB.out | apply below_alloc | apply pw_below_drewN | apply below_drew1 | refine below_set ?_ GE699.out) | exact HB.out)) hb); clear BK699; clear HB; have BK699 := n0_; have HB := n1_; clear n0_ n1_; (try clear hb); (try clear hb2); (try clear hk); (try clear hi); have hcz23_0 : w22.cell? ⟨gb699, 0, none⟩ = some (.slice A0_0 l0_0.length c0_0) := (blk_cell BK699.out 0).trans rfl; have hfz23_0 := blk_frozen BK699.out 0) | (go_at_call 26; (with_reducible refine (tariff_Check.calls k _ _ l0_0 t702 _ ?side1 ?side2 A20.out).mono ?_); (case side1 => repeat (first | exact (Kd.C_below HR0_0.out HB.out) | (with_reducible refine Kd.C_alloc ?_ _) | (with_reducible refine Kd.C_drewN ?_ _) | (with_reducible refine Kd.C_drew ?_))); (case side2 => exact HC0_0.out); rintro e w24 ⟨rfl, hb⟩; have n0_ := Aside0.mk (blk_below (g := gb699) (o := .cells #[.slice A0_0 l0_0.length c0_0] 24 (0, 0)) (by (with_reducible repeat (first | refine blk_drewN ?_ _ | refine blk_drew ?_ | refine blk_alloc ?_ _)); exact BK699.out) hb); have n1_ := Aside0.mk (below_step (by repeat (first | (with_reducible first | exact HB.out | apply below_alloc | apply pw_below_drewN | apply below_drew1 | refine below_set ?_ GE699.out) | exact HB.out)) hb); clear BK699; clear HB; have BK699 := n0_; have HB := n1_; clear n0_ n1_; (try clear hb); (try clear hb2); (try clear hk); (try clear hi)))
       go_meet
       case rel => exact ⟨_, ((t702 != 0)), (by first | rfl | (simp; done) | (simp [*]; done)), H', ⟨by first | omega | exact Nat.le_refl _⟩, ⟨by (with_reducible repeat (first | refine blk_drewN ?_ _ | refine blk_drew ?_ | refine blk_alloc ?_ _)); exact BK699.out⟩, ⟨by repeat (first | (with_reducible first | exact HB.out | apply below_alloc | apply pw_below_drewN | apply below_drew1 | refine below_set ?_ GE699.out) | exact HB.out)⟩⟩
   ·replace c10 := Bool.eq_false_iff.mpr c10
    subst c10
    have H1 : (crossbarlaw26_TariffCutsByTimers.j0 k a1 a2 true l0_0) = some r := by rw [if_neg (show ¬ (false = true) by decide)] at H; exact H
    clear H
    have H := H1
    clear H1
    have H' := Aside0.mk H
    clear H
    have hcz25_0 : w8.cell? ⟨gb699, 0, none⟩ = some (.slice A0_0 l0_0.length c0_0) := (blk_cell BK699.out 0).trans rfl
    have hfz25_0 := blk_frozen BK699.out 0
    go_wp2_with (first | ((with_reducible refine gate_callee (f := 21) rfl ?_); refine goesL_ (some 27) rfl rfl Try.func21 (by kernel_rfl) rfl #[.agg #[.slice A0_0 l0_0.length c0_0]] rfl (by (try simp only [List.map_toArray, List.map_cons, List.map_nil]); first | done | rfl | (simp only [List.length_drop, List.length_take]; rfl)) ?_; (with_reducible refine (crossbarref26_Few.calls _ _ l0_0 false _ ?side1 ?side2 A9.out).mono ?_); (case side1 => repeat (first | exact (Kd.C_below HR0_0.out HB.out) | (with_reducible refine Kd.C_alloc ?_ _) | (with_reducible refine Kd.C_drewN ?_ _) | (with_reducible refine Kd.C_drew ?_))); (case side2 => exact HC0_0.out); rintro e w26 ⟨rfl, hb⟩; refine ⟨_, rfl, ?_⟩; have n0_ := Aside0.mk (blk_below (g := gb699) (o := .cells #[.slice A0_0 l0_0.length c0_0] 24 (0, 0)) (by (with_reducible repeat (first | refine blk_drewN ?_ _ | refine blk_drew ?_ | refine blk_alloc ?_ _)); exact BK699.out) hb); have n1_ := Aside0.mk (below_step (by repeat (first | (with_reducible first | exact HB.out | apply below_alloc | apply pw_below_drewN | apply below_drew1 | refine below_set ?_ GE699.out) | exact HB.out)) hb); clear BK699; clear HB; have BK699 := n0_; have HB := n1_; clear n0_ n1_; (try clear hb); (try clear hb2); (try clear hk); (try clear hi)))
    go_meet
    case rel => exact ⟨_, (true), (by first | rfl | (simp; done) | (simp [*]; done)), H', ⟨by first | omega | exact Nat.le_refl _⟩, ⟨by (with_reducible repeat (first | refine blk_drewN ?_ _ | refine blk_drew ?_ | refine blk_alloc ?_ _)); exact BK699.out⟩, ⟨by repeat (first | (with_reducible first | exact HB.out | apply below_alloc | apply pw_below_drewN | apply below_drew1 | refine below_set ?_ GE699.out) | exact HB.out)⟩⟩
  case rest =>
   clear HC6
   try clear c1
   try clear c2
   try clear p2
   try clear c5
   try clear c10
   try clear c11
   try clear c11b0
   try clear c14
   try clear c14b0
   try clear c17
   try clear c17b0
   try clear c19
   try clear c20
   try clear c21
   try clear hcz12_0
   try clear hcz15_0
   try clear hcz18_0
   try clear hcz21_0
   try clear hcz23_0
   try clear hcz25_0
   try clear hfz12_0
   try clear hfz15_0
   try clear hfz18_0
   try clear hfz21_0
   try clear hfz23_0
   try clear hfz25_0
   obtain ⟨kq, x45_5, rfl, HA, HJ5, BK699, HB⟩ := hcut
   cases kq with
   | zero => exact absurd HA.out (by simp [crossbarlaw26_TariffCutsByTimers.j0])
   | succ kj5 =>
    have H := HA.out
    clear HA
    simp only [crossbarlaw26_TariffCutsByTimers.j0] at H
    by_cases c27 : x45_5 = true
    ·subst c27
     have H1 : (some true) = some r := by rw [if_pos rfl] at H; exact H
     clear H
     have H := H1
     clear H1
     obtain rfl := Option.some.inj H
     go_wp2
     go_ret
     exact ⟨by first | rfl | (simp [errW_none, errW_some] <;> rfl) | (simp [*, errW_none, errW_some] <;> rfl), by repeat (first | (with_reducible first | exact HB.out | apply below_alloc | apply pw_below_drewN | apply below_drew1 | refine below_set ?_ GE699.out) | exact HB.out)⟩
    ·replace c27 := Bool.eq_false_iff.mpr c27
     subst c27
     have H1 : ((tariff_Price.f kj5 l0_0 a1 (wrap64 (a1 + (wrap64 (a2))))).bind fun bt703 => (if bt703.2 = 0 then (crossbarlaw26_TariffCutsByTimers.l0 kj5 (wrap64 (a1 + (wrap64 (a2)))) bt703.1 0 a1 0 l0_0) else (some false))) = some r := by rw [if_neg (show ¬ (false = true) by decide)] at H; exact H
     clear H
     have H := H1
     clear H1
     replace H := Option.bind_eq_some_iff.mp H
     obtain ⟨⟨t703, t704⟩, A280, H⟩ := H
     replace H : (if t704 = 0 then (crossbarlaw26_TariffCutsByTimers.l0 kj5 (wrap64 (a1 + (wrap64 (a2)))) t703 0 a1 0 l0_0) else (some false)) = some r := H
     have A28 := Aside0.mk A280
     clear A280
     by_cases c29 : t704 = 0
     ·rw [if_pos c29] at H
      have c29b0 : (t704 == 0) = true := beq_iff_eq.mpr c29
      have c29b1 : (t704 != 0) = false := bne_eq_false_iff_eq.mpr c29
      clear c29
      have H' := Aside0.mk H
      clear H
      have hcz30_0 : wc.cell? ⟨gb699, 0, none⟩ = some (.slice A0_0 l0_0.length c0_0) := (blk_cell BK699.out 0).trans rfl
      have hfz30_0 := blk_frozen BK699.out 0
      go_wp2_with (first | ((with_reducible refine gate_callee (f := 28) rfl ?_); refine goesL_ (some 54) rfl rfl Try.func28 (by kernel_rfl) rfl #[.agg #[.slice A0_0 l0_0.length c0_0], .int .i64 a1, .int .i64 (wrap64 (a1 + (wrap64 (a2))))] rfl (by (try simp only [List.map_toArray, List.map_cons, List.map_nil]); first | done | rfl | (simp only [List.length_drop, List.length_take]; rfl)) ?_; (with_reducible refine (tariff_Price.calls kj5 _ _ l0_0 a1 (wrap64 (a1 + (wrap64 (a2)))) t703 t704 _ ?side1 ?side2 A28.out).mono ?_); (case side1 => repeat (first | exact (Kd.C_below HR0_0.out HB.out) | (with_reducible refine Kd.C_alloc ?_ _) | (with_reducible refine Kd.C_drewN ?_ _) | (with_reducible refine Kd.C_drew ?_))); (case side2 => exact HC0_0.out); rintro e w31 ⟨rfl, hb⟩; refine ⟨_, rfl, ?_⟩; have n0_ := Aside0.mk (blk_below (g := gb699) (o := .cells #[.slice A0_0 l0_0.length c0_0] 24 (0, 0)) (by (with_reducible repeat (first | refine blk_drewN ?_ _ | refine blk_drew ?_ | refine blk_alloc ?_ _)); exact BK699.out) hb); have n1_ := Aside0.mk (below_step (by repeat (first | (with_reducible first | exact HB.out | apply below_alloc | apply pw_below_drewN | apply below_drew1 | refine below_set ?_ GE699.out) | exact HB.out)) hb); clear BK699; clear HB; have BK699 := n0_; have HB := n1_; clear n0_ n1_; (try clear hb); (try clear hb2); (try clear hk); (try clear hi)))
      go_loopg [10, 11, 60] kj5 (fun kq v10 v11 v60 w' => ∃ (x10_2 : Int) (x11_2 : Int) (x60_2 : Int), v10 = .int .i64 x10_2 ∧ v11 = .int .i64 x11_2 ∧ v60 = .int .i64 x60_2 ∧ Aside0 (crossbarlaw26_TariffCutsByTimers.l0 kq (wrap64 (a1 + (wrap64 (a2)))) t703 x10_2 x11_2 x60_2 l0_0 = some r) ∧ Aside0 (kq ≤ kj5) ∧ Aside0 (w'.heap[gb699]? = some (.cells #[(.slice A0_0 l0_0.length c0_0)] 24 (0, 0))) ∧ Aside0 (Below w.heap.size w w'))
      case atStart => exact ⟨(0), (a1), (0), (by first | rfl | (simp; done) | (simp [*]; done)), (by first | rfl | (simp; done) | (simp [*]; done)), (by first | rfl | (simp; done) | (simp [*]; done)), H', ⟨Nat.le_refl _⟩, ⟨by (with_reducible repeat (first | refine blk_drewN ?_ _ | refine blk_drew ?_ | refine blk_alloc ?_ _)); exact BK699.out⟩, ⟨by repeat (first | (with_reducible first | exact HB.out | apply below_alloc | apply pw_below_drewN | apply below_drew1 | refine below_set ?_ GE699.out) | exact HB.out)⟩⟩
      case round =>
       clear H'
       try clear c1
       try clear c2
       try clear p2
       try clear c5
       try clear p6
       try clear c10
       try clear c11
       try clear c11b0
       try clear c14
       try clear c14b0
       try clear c17
       try clear c17b0
       try clear c19
       try clear c20
       try clear c21
       try clear c27
       try clear c28
       try clear c29
       try clear c29b0
       try clear c29b1
       try clear hcz12_0
       try clear hcz15_0
       try clear hcz18_0
       try clear hcz21_0
       try clear hcz23_0
       try clear hcz25_0
       try clear hcz30_0
       try clear hfz12_0
       try clear hfz15_0
       try clear hfz18_0
       try clear hfz21_0
       try clear hfz23_0
       try clear hfz25_0
       try clear hfz30_0
       try clear p2
       obtain ⟨x10_2, x11_2, x60_2, rfl, rfl, rfl, HA, HK2, BK699, HB⟩ := hrel
       cases gk with
       | zero => exact absurd HA.out (by simp [crossbarlaw26_TariffCutsByTimers.l0])
       | succ k2 =>
        have H := HA.out
        clear HA
        simp only [crossbarlaw26_TariffCutsByTimers.l0] at H
        by_cases c32 : x60_2 < 200
        ·rw [if_pos c32] at H
         have c32b0 : decide (x60_2 < 200) = true := decide_eq_true c32
         clear c32
         replace H := Option.bind_eq_some_iff.mp H
         obtain ⟨⟨t705, t706, t707⟩, A330, H⟩ := H
         replace H : ((tariff_Rate.f k2 l0_0 x11_2).bind fun bt708 => (if t707 = 0 then (crossbarlaw26_TariffCutsByTimers.j2 k2 (wrap64 (a1 + (wrap64 (a2)))) t703 x10_2 x11_2 t705 t706 bt708.1 x60_2 (bt708.2 != 0) l0_0) else (crossbarlaw26_TariffCutsByTimers.j2 k2 (wrap64 (a1 + (wrap64 (a2)))) t703 x10_2 x11_2 t705 t706 bt708.1 x60_2 true l0_0))) = some r := H
         have A33 := Aside0.mk A330
         clear A330
         replace H := Option.bind_eq_some_iff.mp H
         obtain ⟨⟨t708, t709⟩, A340, H⟩ := H
         replace H : (if t707 = 0 then (crossbarlaw26_TariffCutsByTimers.j2 k2 (wrap64 (a1 + (wrap64 (a2)))) t703 x10_2 x11_2 t705 t706 t708 x60_2 (t709 != 0) l0_0) else (crossbarlaw26_TariffCutsByTimers.j2 k2 (wrap64 (a1 + (wrap64 (a2)))) t703 x10_2 x11_2 t705 t706 t708 x60_2 true l0_0)) = some r := H
         have A34 := Aside0.mk A340
         clear A340
         have HC35 := Aside0.mk H
         clear H
         have hcz36_0 : wr.cell? ⟨gb699, 0, none⟩ = some (.slice A0_0 l0_0.length c0_0) := (blk_cell BK699.out 0).trans rfl
         have hfz36_0 := blk_frozen BK699.out 0
         go_upto_region 15 with (first | ((with_reducible refine gate_callee (f := 24) rfl ?_); refine goesL_ (some 65) rfl rfl Try.func24 (by kernel_rfl) rfl #[.agg #[.slice A0_0 l0_0.length c0_0], .int .i64 x11_2] rfl (by (try simp only [List.map_toArray, List.map_cons, List.map_nil]); first | done | rfl | (simp only [List.length_drop, List.length_take]; rfl)) ?_; (with_reducible refine (tariff_Change.calls k2 _ _ l0_0 x11_2 t705 t706 t707 _ ?side1 ?side2 A33.out).mono ?_); (case side1 => repeat (first | exact (Kd.C_below HR0_0.out HB.out) | (with_reducible refine Kd.C_alloc ?_ _) | (with_reducible refine Kd.C_drewN ?_ _) | (with_reducible refine Kd.C_drew ?_))); (case side2 => exact HC0_0.out); rintro e w37 ⟨rfl, hb⟩; refine ⟨_, rfl, ?_⟩; have n0_ := Aside0.mk (blk_below (g := gb699) (o := .cells #[.slice A0_0 l0_0.length c0_0] 24 (0, 0)) (by (with_reducible repeat (first | refine blk_drewN ?_ _ | refine blk_drew ?_ | refine blk_alloc ?_ _)); exact BK699.out) hb); have n1_ := Aside0.mk (below_step (by repeat (first | (with_reducible first | exact HB.out | apply below_alloc | apply pw_below_drewN | apply below_drew1 | refine below_set ?_ GE699.out) | exact HB.out)) hb); clear BK699; clear HB; have BK699 := n0_; have HB := n1_; clear n0_ n1_; (try clear hb); (try clear hb2); (try clear hk); (try clear hi); have hcz38_0 : w37.cell? ⟨gb699, 0, none⟩ = some (.slice A0_0 l0_0.length c0_0) := (blk_cell BK699.out 0).trans rfl; have hfz38_0 := blk_frozen BK699.out 0) | ((with_reducible refine gate_callee (f := 22) rfl ?_); refine goesL_ (some 72) rfl rfl Try.func22 (by kernel_rfl) rfl #[.agg #[.slice A0_0 l0_0.length c0_0], .int .i64 x11_2] rfl (by (try simp only [List.map_toArray, List.map_cons, List.map_nil]); first | done | rfl | (simp only [List.length_drop, List.length_take]; rfl)) ?_; (with_reducible refine (tariff_Rate.calls k2 _ _ l0_0 x11_2 t708 t709 _ ?side1 ?side2 A34.out).mono ?_); (case side1 => repeat (first | exact (Kd.C_below HR0_0.out HB.out) | (with_reducible refine Kd.C_alloc ?_ _) | (with_reducible refine Kd.C_drewN ?_ _) | (with_reducible refine Kd.C_drew ?_))); (case side2 => exact HC0_0.out); rintro e w39 ⟨rfl, hb⟩; refine ⟨_, rfl, ?_⟩; have n0_ := Aside0.mk (blk_below (g := gb699) (o := .cells #[.slice A0_0 l0_0.length c0_0] 24 (0, 0)) (by (with_reducible repeat (first | refine blk_drewN ?_ _ | refine blk_drew ?_ | refine blk_alloc ?_ _)); exact BK699.out) hb); have n1_ := Aside0.mk (below_step (by repeat (first | (with_reducible first | exact HB.out | apply below_alloc | apply pw_below_drewN | apply below_drew1 | refine below_set ?_ GE699.out) | exact HB.out)) hb); clear BK699; clear HB; have BK699 := n0_; have HB := n1_; clear n0_ n1_; (try clear hb); (try clear hb2); (try clear hk); (try clear hi)))
         (try simp only [Act.put, List.setIfInBounds_toArray, List.set_cons_zero, List.set_cons_succ])
         go_cut [80] (fun v80 wc => ∃ (kq : Nat) (x80_34 : Bool), v80 = .bool x80_34 ∧ Aside0 (crossbarlaw26_TariffCutsByTimers.j2 kq (wrap64 (a1 + (wrap64 (a2)))) t703 x10_2 x11_2 t705 t706 t708 x60_2 x80_34 l0_0 = some r) ∧ Aside0 (kq ≤ k2) ∧ Aside0 (wc.heap[gb699]? = some (.cells #[(.slice A0_0 l0_0.length c0_0)] 24 (0, 0))) ∧ Aside0 (Below w.heap.size w wc))
         case first =>
          have H := HC35.out
          clear HC35
          by_cases c40 : t707 = 0
          ·rw [if_pos c40] at H
           have c40b0 : (t707 == 0) = true := beq_iff_eq.mpr c40
           have c40b1 : (t707 != 0) = false := bne_eq_false_iff_eq.mpr c40
           clear c40
           (first | rw [c40b0] | (simp only [i64_w, i32_w]; rw [c40b0]) | skip)
           have H' := Aside0.mk H
           clear H
           go_wp2
           go_meet
           case rel => exact ⟨_, ((t709 != 0)), (by first | rfl | (simp; done) | (simp [*]; done)), H', ⟨by have := HJ5.out; have := HK2.out; first | omega | exact Nat.le_refl _⟩, ⟨by (with_reducible repeat (first | refine blk_drewN ?_ _ | refine blk_drew ?_ | refine blk_alloc ?_ _)); exact BK699.out⟩, ⟨by repeat (first | (with_reducible first | exact HB.out | apply below_alloc | apply pw_below_drewN | apply below_drew1 | refine below_set ?_ GE699.out) | exact HB.out)⟩⟩
          ·rw [if_neg c40] at H
           have c40b0 : (t707 == 0) = false := beq_eq_false_iff_ne.mpr c40
           have c40b1 : (t707 != 0) = true := bne_iff_ne.mpr c40
           (first | rw [c40b0] | (simp only [i64_w, i32_w]; rw [c40b0]) | skip)
           have H' := Aside0.mk H
           clear H
           go_wp2
           go_meet
           case rel => exact ⟨_, (true), (by first | rfl | (simp; done) | (simp [*]; done)), H', ⟨by have := HJ5.out; have := HK2.out; first | omega | exact Nat.le_refl _⟩, ⟨by (with_reducible repeat (first | refine blk_drewN ?_ _ | refine blk_drew ?_ | refine blk_alloc ?_ _)); exact BK699.out⟩, ⟨by repeat (first | (with_reducible first | exact HB.out | apply below_alloc | apply pw_below_drewN | apply below_drew1 | refine below_set ?_ GE699.out) | exact HB.out)⟩⟩
         case rest =>
          clear HC35
          try clear c1
          try clear c2
          try clear p2
          try clear c3
          try clear c4
          try clear c5
          try clear p6
          try clear c10
          try clear c11
          try clear c11b0
          try clear c14
          try clear c14b0
          try clear c17
          try clear c17b0
          try clear c19
          try clear c20
          try clear c21
          try clear c22
          try clear c24
          try clear c27
          try clear c28
          try clear c29
          try clear c29b0
          try clear c29b1
          try clear c32
          try clear c32b0
          try clear c40
          try clear c40b0
          try clear c40b1
          try clear hcz12_0
          try clear hcz15_0
          try clear hcz18_0
          try clear hcz21_0
          try clear hcz23_0
          try clear hcz25_0
          try clear hcz30_0
          try clear hcz36_0
          try clear hcz38_0
          try clear hfz12_0
          try clear hfz15_0
          try clear hfz18_0
          try clear hfz21_0
          try clear hfz23_0
          try clear hfz25_0
          try clear hfz30_0
          try clear hfz36_0
          try clear hfz38_0
          try clear p2
          try clear p6
          obtain ⟨kq, x80_34, rfl, HA, HJ34, BK699, HB⟩ := hcut
          cases kq with
          | zero => exact absurd HA.out (by simp [crossbarlaw26_TariffCutsByTimers.j2])
          | succ kj34 =>
           have H := HA.out
           clear HA
           simp only [crossbarlaw26_TariffCutsByTimers.j2] at H
           by_cases c41 : x80_34 = true
           ·subst c41
            have H1 : (some false) = some r := by rw [if_pos rfl] at H; exact H
            clear H
            have H := H1
            clear H1
            exact absurd ((Option.some.inj H).trans HT_TRUE.out) (by simp)
           ·replace c41 := Bool.eq_false_iff.mpr c41
            subst c41
            have H1 : (if t706 = true then (crossbarlaw26_TariffCutsByTimers.j3 kj34 (wrap64 (a1 + (wrap64 (a2)))) t703 x10_2 x11_2 t705 t708 x60_2 (decide (t705 ≥ (wrap64 (a1 + (wrap64 (a2)))))) l0_0) else (crossbarlaw26_TariffCutsByTimers.j3 kj34 (wrap64 (a1 + (wrap64 (a2)))) t703 x10_2 x11_2 t705 t708 x60_2 true l0_0)) = some r := by rw [if_neg (show ¬ (false = true) by decide)] at H; exact H
            clear H
            have H := H1
            clear H1
            have HC42 := Aside0.mk H
            clear H
            go_upto_region 17 with (fail)
            go_cut [87] (fun v87 wc => ∃ (kq : Nat) (x87_41 : Bool), v87 = .bool x87_41 ∧ Aside0 (crossbarlaw26_TariffCutsByTimers.j3 kq (wrap64 (a1 + (wrap64 (a2)))) t703 x10_2 x11_2 t705 t708 x60_2 x87_41 l0_0 = some r) ∧ Aside0 (kq ≤ kj34) ∧ Aside0 (wc.heap[gb699]? = some (.cells #[(.slice A0_0 l0_0.length c0_0)] 24 (0, 0))) ∧ Aside0 (Below w.heap.size w wc))
            case first =>
             have H := HC42.out
             clear HC42
             by_cases c43 : t706 = true
             ·subst c43
              have H1 : (crossbarlaw26_TariffCutsByTimers.j3 kj34 (wrap64 (a1 + (wrap64 (a2)))) t703 x10_2 x11_2 t705 t708 x60_2 (decide (t705 ≥ (wrap64 (a1 + (wrap64 (a2)))))) l0_0) = some r := by rw [if_pos rfl] at H; exact H
              clear H
              have H := H1
              clear H1
              have H' := Aside0.mk H
              clear H
              go_wp2
              go_meet
              case rel => exact ⟨_, (decide (t705 ≥ (wrap64 (a1 + (wrap64 (a2)))))), (by first | rfl | (simp; done) | (simp [*]; done)), H', ⟨by have := HJ5.out; have := HK2.out; have := HJ34.out; first | omega | exact Nat.le_refl _⟩, ⟨by (with_reducible repeat (first | refine blk_drewN ?_ _ | refine blk_drew ?_ | refine blk_alloc ?_ _)); exact BK699.out⟩, ⟨by repeat (first | (with_reducible first | exact HB.out | apply below_alloc | apply pw_below_drewN | apply below_drew1 | refine below_set ?_ GE699.out) | exact HB.out)⟩⟩
             ·replace c43 := Bool.eq_false_iff.mpr c43
              subst c43
              have H1 : (crossbarlaw26_TariffCutsByTimers.j3 kj34 (wrap64 (a1 + (wrap64 (a2)))) t703 x10_2 x11_2 t705 t708 x60_2 true l0_0) = some r := by rw [if_neg (show ¬ (false = true) by decide)] at H; exact H
              clear H
              have H := H1
              clear H1
              have H' := Aside0.mk H
              clear H
              go_wp2
              go_meet
              case rel => exact ⟨_, (true), (by first | rfl | (simp; done) | (simp [*]; done)), H', ⟨by have := HJ5.out; have := HK2.out; have := HJ34.out; first | omega | exact Nat.le_refl _⟩, ⟨by (with_reducible repeat (first | refine blk_drewN ?_ _ | refine blk_drew ?_ | refine blk_alloc ?_ _)); exact BK699.out⟩, ⟨by repeat (first | (with_reducible first | exact HB.out | apply below_alloc | apply pw_below_drewN | apply below_drew1 | refine below_set ?_ GE699.out) | exact HB.out)⟩⟩
            case rest =>
             clear HC42
             try clear c1
             try clear c2
             try clear p2
             try clear c3
             try clear c4
             try clear c5
             try clear p6
             try clear c10
             try clear c11
             try clear c11b0
             try clear c14
             try clear c14b0
             try clear c17
             try clear c17b0
             try clear c19
             try clear c20
             try clear c21
             try clear c22
             try clear c24
             try clear c27
             try clear c28
             try clear c29
             try clear c29b0
             try clear c29b1
             try clear c32
             try clear c32b0
             try clear c40
             try clear c40b0
             try clear c40b1
             try clear c41
             try clear c43
             try clear hcz12_0
             try clear hcz15_0
             try clear hcz18_0
             try clear hcz21_0
             try clear hcz23_0
             try clear hcz25_0
             try clear hcz30_0
             try clear hcz36_0
             try clear hcz38_0
             try clear hfz12_0
             try clear hfz15_0
             try clear hfz18_0
             try clear hfz21_0
             try clear hfz23_0
             try clear hfz25_0
             try clear hfz30_0
             try clear hfz36_0
             try clear hfz38_0
             try clear p2
             try clear p6
             obtain ⟨kq, x87_41, rfl, HA, HJ41, BK699, HB⟩ := hcut
             cases kq with
             | zero => exact absurd HA.out (by simp [crossbarlaw26_TariffCutsByTimers.j3])
             | succ kj41 =>
              have H := HA.out
              clear HA
              simp only [crossbarlaw26_TariffCutsByTimers.j3] at H
              by_cases c44 : x87_41 = true
              ·subst c44
               have H1 : (some ((wrap64 (x10_2 + (wrap64 ((wrap64 ((wrap64 (a1 + (wrap64 (a2)))) - x11_2)) * t708)))) == t703)) = some r := by rw [if_pos rfl] at H; exact H
               clear H
               have H := H1
               clear H1
               obtain rfl := Option.some.inj H
               go_wp2
               go_ret
               exact ⟨by first | rfl | (simp [errW_none, errW_some] <;> rfl) | (simp [*, errW_none, errW_some] <;> rfl), by repeat (first | (with_reducible first | exact HB.out | apply below_alloc | apply pw_below_drewN | apply below_drew1 | refine below_set ?_ GE699.out) | exact HB.out)⟩
              ·replace c44 := Bool.eq_false_iff.mpr c44
               subst c44
               have H1 : ((timers_Set.f ([] : List (S64)) 1 t705).bind fun bt710 => ((timers_Next.f bt710.1).bind fun bt715 => ((timers_Expire.f bt710.1 (wrap64 (t705 - 1))).bind fun bt717 => (if bt710.2 = 0 then (if bt717.2.2 = 0 then (if bt715.2 = true then (if (bt717.2.1.length : Int) = 0 then (if bt715.1 ≤ x11_2 then (some false) else (crossbarlaw26_TariffCutsByTimers.l0 kj41 (wrap64 (a1 + (wrap64 (a2)))) t703 (wrap64 (x10_2 + (wrap64 ((wrap64 (bt715.1 - x11_2)) * t708)))) bt715.1 (wrap64 (x60_2 + 1)) l0_0)) else (some false)) else (some false)) else (some false)) else (some false))))) = some r := by rw [if_neg (show ¬ (false = true) by decide)] at H; exact H
               clear H
               have H := H1
               clear H1
               replace H := Option.bind_eq_some_iff.mp H
               obtain ⟨⟨t710, t713⟩, A450, H⟩ := H
               replace H : ((timers_Next.f t710).bind fun bt715 => ((timers_Expire.f t710 (wrap64 (t705 - 1))).bind fun bt717 => (if t713 = 0 then (if bt717.2.2 = 0 then (if bt715.2 = true then (if (bt717.2.1.length : Int) = 0 then (if bt715.1 ≤ x11_2 then (some false) else (crossbarlaw26_TariffCutsByTimers.l0 kj41 (wrap64 (a1 + (wrap64 (a2)))) t703 (wrap64 (x10_2 + (wrap64 ((wrap64 (bt715.1 - x11_2)) * t708)))) bt715.1 (wrap64 (x60_2 + 1)) l0_0)) else (some false)) else (some false)) else (some false)) else (some false)))) = some r := H
               have A45 := Aside0.mk A450
               clear A450
               replace H := Option.bind_eq_some_iff.mp H
               obtain ⟨⟨t715, t716⟩, A460, H⟩ := H
               replace H : ((timers_Expire.f t710 (wrap64 (t705 - 1))).bind fun bt717 => (if t713 = 0 then (if bt717.2.2 = 0 then (if t716 = true then (if (bt717.2.1.length : Int) = 0 then (if t715 ≤ x11_2 then (some false) else (crossbarlaw26_TariffCutsByTimers.l0 kj41 (wrap64 (a1 + (wrap64 (a2)))) t703 (wrap64 (x10_2 + (wrap64 ((wrap64 (t715 - x11_2)) * t708)))) t715 (wrap64 (x60_2 + 1)) l0_0)) else (some false)) else (some false)) else (some false)) else (some false))) = some r := H
               have A46 := Aside0.mk A460
               clear A460
               replace H := Option.bind_eq_some_iff.mp H
               obtain ⟨⟨t717, t720, t723⟩, A470, H⟩ := H
               replace H : (if t713 = 0 then (if t723 = 0 then (if t716 = true then (if (t720.length : Int) = 0 then (if t715 ≤ x11_2 then (some false) else (crossbarlaw26_TariffCutsByTimers.l0 kj41 (wrap64 (a1 + (wrap64 (a2)))) t703 (wrap64 (x10_2 + (wrap64 ((wrap64 (t715 - x11_2)) * t708)))) t715 (wrap64 (x60_2 + 1)) l0_0)) else (some false)) else (some false)) else (some false)) else (some false)) = some r := H
               have A47 := Aside0.mk A470
               clear A470
               by_cases c48 : t713 = 0
               ·rw [if_pos c48] at H
                have c48b0 : (t713 == 0) = true := beq_iff_eq.mpr c48
                have c48b1 : (t713 != 0) = false := bne_eq_false_iff_eq.mpr c48
                clear c48
                by_cases c49 : t723 = 0
                ·rw [if_pos c49] at H
                 have c49b0 : (t723 == 0) = true := beq_iff_eq.mpr c49
                 have c49b1 : (t723 != 0) = false := bne_eq_false_iff_eq.mpr c49
                 clear c49
                 by_cases c50 : t716 = true
                 ·subst c50
                  have H1 : (if (t720.length : Int) = 0 then (if t715 ≤ x11_2 then (some false) else (crossbarlaw26_TariffCutsByTimers.l0 kj41 (wrap64 (a1 + (wrap64 (a2)))) t703 (wrap64 (x10_2 + (wrap64 ((wrap64 (t715 - x11_2)) * t708)))) t715 (wrap64 (x60_2 + 1)) l0_0)) else (some false)) = some r := by rw [if_pos rfl] at H; exact H
                  clear H
                  have H := H1
                  clear H1
                  by_cases c51 : (t720.length : Int) = 0
                  ·rw [if_pos c51] at H
                   have c51b0 : ((t720.length : Int) == 0) = true := beq_iff_eq.mpr c51
                   have c51b1 : ((t720.length : Int) != 0) = false := bne_eq_false_iff_eq.mpr c51
                   clear c51
                   by_cases c52 : t715 ≤ x11_2
                   ·rw [if_pos c52] at H
                    have c52b0 : decide (t715 ≤ x11_2) = true := decide_eq_true c52
                    clear c52
                    exact absurd ((Option.some.inj H).trans HT_TRUE.out) (by simp)
                   ·rw [if_neg c52] at H
                    have c52b0 : decide (t715 ≤ x11_2) = false := decide_eq_false c52
                    clear c52
                    have H' := Aside0.mk H
                    clear H
                    go_wp2_with (first | ((with_reducible refine gate_callee (f := 34) rfl ?_); refine goesL_ (some 100) rfl rfl Try.func34 (by kernel_rfl) rfl #[.agg #[.slice none 0 0], .int .i64 1, .int .i64 t705] rfl (by (try simp only [List.map_toArray, List.map_cons, List.map_nil]); first | done | rfl | (simp only [List.length_drop, List.length_take]; rfl)) ?_; (refine (timers_Set.calls _ _ ([] : List (S64)) 1 t705 t710 t713 _ ?side1 ?side2 A45.out).mono ?_); (case side1 => exact Kd.C_nil _ _); (case side2 => exact Nat.le_refl _); rintro e w53 ⟨v711, rfl, ho0, hb⟩; refine ⟨_, rfl, ?_⟩; have n0_ := Aside0.mk (Kd.R_lower ho0 (below_size (by repeat (first | (with_reducible first | exact HB.out | apply below_alloc | apply pw_below_drewN | apply below_drew1 | refine below_set ?_ GE699.out) | exact HB.out)))); have n1_ := Aside0.mk (blk_below (g := gb699) (o := .cells #[.slice A0_0 l0_0.length c0_0] 24 (0, 0)) (by (with_reducible repeat (first | refine blk_drewN ?_ _ | refine blk_drew ?_ | refine blk_alloc ?_ _)); exact BK699.out) hb); have n2_ := Aside0.mk (below_step (by repeat (first | (with_reducible first | exact HB.out | apply below_alloc | apply pw_below_drewN | apply below_drew1 | refine below_set ?_ GE699.out) | exact HB.out)) hb); clear BK699; clear HB; have HO712 := n0_; have BK699 := n1_; have HB := n2_; clear n0_ n1_ n2_; (try clear hb); (try clear hb2); (try clear hk); (try clear hi); (try clear ho0)) | ((with_reducible refine gate_dst (N := 17) rfl ?_); (try (refine gate_guard (by rfl) ?_; dsimp only)); refine box_event ?hg (N := 17) ?hd (cs := #[.slice none 0 0]) (t := 45) ?hr ?_; (case hd => rfl); (case hg => rfl); (case hr => first | (go_simp; done) | (go_simp; rfl)); intro gb714 hg w54 hbox hb; have n0_ := Aside0.mk (Kd.R_below (by (with_reducible repeat (first | apply Kd.R_alloc | apply Kd.R_drewN | apply Kd.R_drew)); exact HO712.out) hb); have n1_ := Aside0.mk (blk_below (g := gb699) (o := .cells #[.slice A0_0 l0_0.length c0_0] 24 (0, 0)) (by (with_reducible repeat (first | refine blk_drewN ?_ _ | refine blk_drew ?_ | refine blk_alloc ?_ _)); exact BK699.out) hb); have n2_ := Aside0.mk (below_step (by repeat (first | (with_reducible first | exact HB.out | apply below_alloc | apply pw_below_drewN | apply below_drew1 | refine below_set ?_ GE699.out) | exact HB.out)) hb); have n3_ := Aside0.mk (hbox); have n4_ := Aside0.mk ((by rw [hg]; exact (below_size (by repeat (first | (with_reducible first | exact HB.out | apply below_alloc | apply pw_below_drewN | apply below_drew1 | refine below_set ?_ GE699.out) | exact HB.out))) : w.heap.size ≤ gb714)); have n5_ := Aside0.mk ((by rw [hg]; exact (below_size (by repeat (first | (with_reducible first | exact HB.out | apply below_alloc | apply pw_below_drewN | apply below_drew1 | refine below_set ?_ GE699.out) | exact HB.out))) : w.heap.size ≤ gb714)); have n6_ := Aside0.mk ((by rw [hg]; exact Nat.ne_of_lt (blk_lt (g := gb699) (o := .cells #[.slice A0_0 l0_0.length c0_0] 24 (0, 0)) (by (with_reducible repeat (first | refine blk_drewN ?_ _ | refine blk_drew ?_ | refine blk_alloc ?_ _)); exact BK699.out)) : gb699 ≠ gb714)); have n7_ := Aside0.mk ((by rw [hg]; exact Nat.ne_of_gt (blk_lt (g := gb699) (o := .cells #[.slice A0_0 l0_0.length c0_0] 24 (0, 0)) (by (with_reducible repeat (first | refine blk_drewN ?_ _ | refine blk_drew ?_ | refine blk_alloc ?_ _)); exact BK699.out)) : gb714 ≠ gb699)); clear HO712; clear BK699; clear HB; have HO712 := n0_; have BK699 := n1_; have HB := n2_; have BK714 := n3_; have GW714 := n4_; have GE714 := n5_; have NB699_714 := n6_; have NB714_699 := n7_; clear n0_ n1_ n2_ n3_ n4_ n5_ n6_ n7_; clear hb hbox hg; obtain ⟨Ao55, co55, eo55⟩ := Kd.R_slice HO712.out; subst eo55; have hnb56 := NB714_699.out; have hnc56 := NB699_714.out; have hcz57_0 : w54.cell? ⟨gb714, 0, none⟩ = some (.slice none 0 0) := (blk_cell BK714.out 0).trans rfl; have hfz57_0 := blk_frozen BK714.out 0) | ((with_reducible refine gate_callee (f := 38) rfl ?_); refine goesL_ (some 105) rfl rfl Try.func38 (by kernel_rfl) rfl #[.agg #[.slice Ao55 t710.length co55]] rfl (by (try simp only [List.map_toArray, List.map_cons, List.map_nil]); first | done | rfl | (simp only [List.length_drop, List.length_take]; rfl)) ?_; (with_reducible refine (timers_Next.calls _ _ t710 t715 true _ ?side1 ?side2 A46.out).mono ?_); (case side1 => refine (Kd.R_reads' (e := 64) (base := w.heap.size) (ok := fun k_ => True) (n := t710.length) (c := co55) ?_).2.2; exact (by (with_reducible repeat (first | apply Kd.R_alloc | apply Kd.R_drewN | apply Kd.R_drew)); exact (Kd.R_mono (Kd.R_far (p := ⟨gb714, 0, none⟩) (Kd.R_types HO712.out BK714.out (by decide)) (fun _ hk => hk.2) (.slice Ao55 t710.length co55)) (fun _ h_ => h_.1)))); (case side2 => exact (Kd.R_reads' HO712.out).2.1); rintro e w58 ⟨rfl, hb⟩; refine ⟨_, rfl, ?_⟩; have n0_ := Aside0.mk (Kd.R_below (by (with_reducible repeat (first | apply Kd.R_alloc | apply Kd.R_drewN | apply Kd.R_drew)); exact (Kd.R_mono (Kd.R_far (p := ⟨gb714, 0, none⟩) (Kd.R_types HO712.out BK714.out (by decide)) (fun _ hk => hk.2) (.slice Ao55 t710.length co55)) (fun _ h_ => h_.1))) hb); have n1_ := Aside0.mk (blk_below (g := gb699) (o := .cells #[.slice A0_0 l0_0.length c0_0] 24 (0, 0)) (by (with_reducible repeat (first | refine blk_drewN ?_ _ | refine blk_drew ?_ | refine blk_alloc ?_ _)); refine blk_far ?_ NB699_714.out _; (with_reducible repeat (first | refine blk_drewN ?_ _ | refine blk_drew ?_ | refine blk_alloc ?_ _)); exact BK699.out) hb); have n2_ := Aside0.mk (blk_below (g := gb714) (o := .cells #[.slice Ao55 t710.length co55] 45 (0, 0)) (by (with_reducible repeat (first | refine blk_drewN ?_ _ | refine blk_drew ?_ | refine blk_alloc ?_ _)); refine blk_put (cs := #[.slice none 0 0]) ?_ 0 _ rfl; (with_reducible repeat (first | refine blk_drewN ?_ _ | refine blk_drew ?_ | refine blk_alloc ?_ _)); exact BK714.out) hb); have n3_ := Aside0.mk (below_step (by repeat (first | (with_reducible first | exact HB.out | apply below_alloc | apply pw_below_drewN | apply below_drew1 | refine below_set ?_ GE699.out | refine below_set ?_ GE714.out) | exact HB.out)) hb); clear HO712; clear BK699; clear BK714; clear HB; have HO712 := n0_; have BK699 := n1_; have BK714 := n2_; have HB := n3_; clear n0_ n1_ n2_ n3_; (try clear hb); (try clear hb2); (try clear hk); (try clear hi); have hcz59_0 : w58.cell? ⟨gb714, 0, none⟩ = some (.slice Ao55 t710.length co55) := (blk_cell BK714.out 0).trans rfl; have hfz59_0 := blk_frozen BK714.out 0) | ((with_reducible refine gate_callee (f := 43) rfl ?_); refine goesL_ (some 112) rfl rfl Try.func43 (by kernel_rfl) rfl #[.agg #[.slice Ao55 t710.length co55], .int .i64 (wrap64 (t705 - 1))] rfl (by (try simp only [List.map_toArray, List.map_cons, List.map_nil]); first | done | rfl | (simp only [List.length_drop, List.length_take]; rfl)) ?_; (with_reducible refine (timers_Expire.calls _ _ t710 (wrap64 (t705 - 1)) t717 t720 t723 _ ?side1 ?side2 A47.out).mono ?_); (case side1 => repeat (first | exact (Kd.R_reads' HO712.out).2.2 | (with_reducible refine Kd.C_alloc ?_ _) | (with_reducible refine Kd.C_drewN ?_ _) | (with_reducible refine Kd.C_drew ?_))); (case side2 => exact (Kd.R_reads' HO712.out).2.1); rintro e w60 ⟨v718, v721, rfl, ho0, ho1, hb⟩; refine ⟨_, rfl, ?_⟩; have n0_ := Aside0.mk (Kd.R_elder' (by (with_reducible repeat (first | apply Kd.R_alloc | apply Kd.R_drewN | apply Kd.R_drew)); exact HO712.out) (Kd.R_base ho0) hb); have n1_ := Aside0.mk (Kd.R_lower (Kd.R_new' ho0 (Kd.R_lt (by (with_reducible repeat (first | apply Kd.R_alloc | apply Kd.R_drewN | apply Kd.R_drew)); exact HO712.out))) (below_size (by repeat (first | (with_reducible first | exact HB.out | apply below_alloc | apply pw_below_drewN | apply below_drew1 | refine below_set ?_ GE699.out | refine below_set ?_ GE714.out) | exact HB.out)))); have n2_ := Aside0.mk (Kd.R_lower ho1 (below_size (by repeat (first | (with_reducible first | exact HB.out | apply below_alloc | apply pw_below_drewN | apply below_drew1 | refine below_set ?_ GE699.out | refine below_set ?_ GE714.out) | exact HB.out)))); have n3_ := Aside0.mk (blk_below (g := gb699) (o := .cells #[.slice A0_0 l0_0.length c0_0] 24 (0, 0)) (by (with_reducible repeat (first | refine blk_drewN ?_ _ | refine blk_drew ?_ | refine blk_alloc ?_ _)); exact BK699.out) hb); have n4_ := Aside0.mk (blk_below (g := gb714) (o := .cells #[.slice Ao55 t710.length co55] 45 (0, 0)) (by (with_reducible repeat (first | refine blk_drewN ?_ _ | refine blk_drew ?_ | refine blk_alloc ?_ _)); exact BK714.out) hb); have n5_ := Aside0.mk (below_step (by repeat (first | (with_reducible first | exact HB.out | apply below_alloc | apply pw_below_drewN | apply below_drew1 | refine below_set ?_ GE699.out | refine below_set ?_ GE714.out) | exact HB.out)) hb); clear HO712; clear BK699; clear BK714; clear HB; have HO712 := n0_; have HO719 := n1_; have HO722 := n2_; have BK699 := n3_; have BK714 := n4_; have HB := n5_; clear n0_ n1_ n2_ n3_ n4_ n5_; (try clear hb); (try clear hb2); (try clear hk); (try clear hi); (try clear ho0); (try clear ho1)) | ((with_reducible refine gate_dst (N := 21) rfl ?_); (try (refine gate_guard (by rfl) ?_; dsimp only)); refine box_event ?hg (N := 21) ?hd (cs := #[.slice none 0 0]) (t := 45) ?hr ?_; (case hd => rfl); (case hg => rfl); (case hr => first | (go_simp; done) | (go_simp; rfl)); intro gb724 hg w61 hbox hb; have n0_ := Aside0.mk (Kd.R_below (by (with_reducible repeat (first | apply Kd.R_alloc | apply Kd.R_drewN | apply Kd.R_drew)); exact HO712.out) hb); have n1_ := Aside0.mk (Kd.R_below (by (with_reducible repeat (first | apply Kd.R_alloc | apply Kd.R_drewN | apply Kd.R_drew)); exact HO719.out) hb); have n2_ := Aside0.mk (Kd.R_below (by (with_reducible repeat (first | apply Kd.R_alloc | apply Kd.R_drewN | apply Kd.R_drew)); exact HO722.out) hb); have n3_ := Aside0.mk (blk_below (g := gb699) (o := .cells #[.slice A0_0 l0_0.length c0_0] 24 (0, 0)) (by (with_reducible repeat (first | refine blk_drewN ?_ _ | refine blk_drew ?_ | refine blk_alloc ?_ _)); exact BK699.out) hb); have n4_ := Aside0.mk (blk_below (g := gb714) (o := .cells #[.slice Ao55 t710.length co55] 45 (0, 0)) (by (with_reducible repeat (first | refine blk_drewN ?_ _ | refine blk_drew ?_ | refine blk_alloc ?_ _)); exact BK714.out) hb); have n5_ := Aside0.mk (below_step (by repeat (first | (with_reducible first | exact HB.out | apply below_alloc | apply pw_below_drewN | apply below_drew1 | refine below_set ?_ GE699.out | refine below_set ?_ GE714.out) | exact HB.out)) hb); have n6_ := Aside0.mk (hbox); have n7_ := Aside0.mk ((by rw [hg]; exact (below_size (by repeat (first | (with_reducible first | exact HB.out | apply below_alloc | apply pw_below_drewN | apply below_drew1 | refine below_set ?_ GE699.out | refine below_set ?_ GE714.out) | exact HB.out))) : w.heap.size ≤ gb724)); have n8_ := Aside0.mk ((by rw [hg]; exact (below_size (by repeat (first | (with_reducible first | exact HB.out | apply below_alloc | apply pw_below_drewN | apply below_drew1 | refine below_set ?_ GE699.out | refine below_set ?_ GE714.out) | exact HB.out))) : w.heap.size ≤ gb724)); have n9_ := Aside0.mk ((by rw [hg]; exact Nat.ne_of_lt (blk_lt (g := gb699) (o := .cells #[.slice A0_0 l0_0.length c0_0] 24 (0, 0)) (by (with_reducible repeat (first | refine blk_drewN ?_ _ | refine blk_drew ?_ | refine blk_alloc ?_ _)); exact BK699.out)) : gb699 ≠ gb724)); have n10_ := Aside0.mk ((by rw [hg]; exact Nat.ne_of_gt (blk_lt (g := gb699) (o := .cells #[.slice A0_0 l0_0.length c0_0] 24 (0, 0)) (by (with_reducible repeat (first | refine blk_drewN ?_ _ | refine blk_drew ?_ | refine blk_alloc ?_ _)); exact BK699.out)) : gb724 ≠ gb699)); have n11_ := Aside0.mk ((by rw [hg]; exact Nat.ne_of_lt (blk_lt (g := gb714) (o := .cells #[.slice Ao55 t710.length co55] 45 (0, 0)) (by (with_reducible repeat (first | refine blk_drewN ?_ _ | refine blk_drew ?_ | refine blk_alloc ?_ _)); exact BK714.out)) : gb714 ≠ gb724)); have n12_ := Aside0.mk ((by rw [hg]; exact Nat.ne_of_gt (blk_lt (g := gb714) (o := .cells #[.slice Ao55 t710.length co55] 45 (0, 0)) (by (with_reducible repeat (first | refine blk_drewN ?_ _ | refine blk_drew ?_ | refine blk_alloc ?_ _)); exact BK714.out)) : gb724 ≠ gb714)); clear HO712; clear HO719; clear HO722; clear BK699; clear BK714; clear HB; have HO712 := n0_; have HO719 := n1_; have HO722 := n2_; have BK699 := n3_; have BK714 := n4_; have HB := n5_; have BK724 := n6_; have GW724 := n7_; have GE724 := n8_; have NB699_724 := n9_; have NB724_699 := n10_; have NB714_724 := n11_; have NB724_714 := n12_; clear n0_ n1_ n2_ n3_ n4_ n5_ n6_ n7_ n8_ n9_ n10_ n11_ n12_; clear hb hbox hg; obtain ⟨Ao62, co62, eo62⟩ := Kd.R_slice HO719.out; subst eo62; have hnb63 := NB724_699.out; have hnc63 := NB699_724.out; have hnb64 := NB724_714.out; have hnc64 := NB714_724.out; have hcz65_0 : w61.cell? ⟨gb724, 0, none⟩ = some (.slice none 0 0) := (blk_cell BK724.out 0).trans rfl; have hfz65_0 := blk_frozen BK724.out 0; obtain ⟨Ao66, co66, eo66⟩ := Kd.R_slice HO722.out; subst eo66))
                    go_roundg kj41
                    case measure => have := HJ5.out; have := HK2.out; have := HJ34.out; have := HJ41.out; omega
                    case rel => exact ⟨(wrap64 (x10_2 + (wrap64 ((wrap64 (t715 - x11_2)) * t708)))), (t715), (wrap64 (x60_2 + 1)), (by first | rfl | (simp; done) | (simp [*]; done)), (by first | rfl | (simp; done) | (simp [*]; done)), (by first | rfl | (simp; done) | (simp [*]; done)), H', ⟨by have := HJ5.out; have := HK2.out; have := HJ34.out; have := HJ41.out; omega⟩, ⟨by (with_reducible repeat (first | refine blk_drewN ?_ _ | refine blk_drew ?_ | refine blk_alloc ?_ _)); refine blk_far ?_ NB699_724.out _; (with_reducible repeat (first | refine blk_drewN ?_ _ | refine blk_drew ?_ | refine blk_alloc ?_ _)); exact BK699.out⟩, ⟨by repeat (first | (with_reducible first | exact HB.out | apply below_alloc | apply pw_below_drewN | apply below_drew1 | refine below_set ?_ GE699.out | refine below_set ?_ GE714.out | refine below_set ?_ GE724.out) | exact HB.out)⟩⟩
                  ·rw [if_neg c51] at H
                   have c51b0 : ((t720.length : Int) == 0) = false := beq_eq_false_iff_ne.mpr c51
                   have c51b1 : ((t720.length : Int) != 0) = true := bne_iff_ne.mpr c51
                   have c51b2 : ¬ (t720 = []) := fun h_ => c51 (by rw [h_]; rfl)
                   exact absurd ((Option.some.inj H).trans HT_TRUE.out) (by simp)
                 ·replace c50 := Bool.eq_false_iff.mpr c50
                  subst c50
                  have H1 : (some false) = some r := by rw [if_neg (show ¬ (false = true) by decide)] at H; exact H
                  clear H
                  have H := H1
                  clear H1
                  exact absurd ((Option.some.inj H).trans HT_TRUE.out) (by simp)
                ·rw [if_neg c49] at H
                 have c49b0 : (t723 == 0) = false := beq_eq_false_iff_ne.mpr c49
                 have c49b1 : (t723 != 0) = true := bne_iff_ne.mpr c49
                 exact absurd ((Option.some.inj H).trans HT_TRUE.out) (by simp)
               ·rw [if_neg c48] at H
                have c48b0 : (t713 == 0) = false := beq_eq_false_iff_ne.mpr c48
                have c48b1 : (t713 != 0) = true := bne_iff_ne.mpr c48
                exact absurd ((Option.some.inj H).trans HT_TRUE.out) (by simp)
        ·rw [if_neg c32] at H
         have c32b0 : decide (x60_2 < 200) = false := decide_eq_false c32
         clear c32
         exact absurd ((Option.some.inj H).trans HT_TRUE.out) (by simp)
     ·rw [if_neg c29] at H
      have c29b0 : (t704 == 0) = false := beq_eq_false_iff_ne.mpr c29
      have c29b1 : (t704 != 0) = true := bne_iff_ne.mpr c29
      exact absurd ((Option.some.inj H).trans HT_TRUE.out) (by simp)
 ·replace c5 := Bool.eq_false_iff.mpr c5
  subst c5
  have H1 : (some false) = some r := by rw [if_neg (show ¬ (false = true) by decide)] at H; exact H
  clear H
  have H := H1
  clear H1
  exact absurd ((Option.some.inj H).trans HT_TRUE.out) (by simp)

end Go.Proofs.Ytldpacphackdjaa.Print
