/- That the call of function 7 (crossbarlaw26_TariffConstantUntilChange) answers what the Lean function of the same name answers, at every input at which that one answers. (Written by a program of the session, which drives the kit's printer.) -/
import Derived.Test.YtldpacphackdjaaK0
import Derived.Test.YtldpacphackdjaaF22
import Derived.Test.YtldpacphackdjaaF24
import Derived.Test.YtldpacphackdjaaF28
import Derived.Test.YtldpacphackdjaaF20
import Derived.Test.YtldpacphackdjaaF21
namespace Go.Proofs.Ytldpacphackdjaa.Print
open Go.RowKit Go.Proofs.YtldpacphackdjaaW.PrintWords Go.Proofs.YtldpacphackdjaaW.PrintLast Go.Proofs.YtldpacphackdjaaW.PrintMore
attribute [local go_sem] max2_int min2_int max_two min_two max_three min_three max_four min_four   -- for this text's walks alone
set_option linter.unusedVariables false
set_option linter.unusedSimpArgs false

/-! ### crossbarlaw26_TariffConstantUntilChange: function 7 -/
mutual
def crossbarlaw26_TariffConstantUntilChange.j0 : Nat → Int → Int → Bool → List (S42) → Option (Bool)
 | 0, _, _, _, _ => none
 | k + 1, x1, x2, x38, x248000 => if x38 = true then (some true) else ((tariff_Change.f k x248000 x1).bind fun bt250 => (if bt250.2.2 = 0 then ((tariff_Rate.f k x248000 x1).bind fun bt253 => (if bt250.2.1 = true then (if bt250.1 ≤ x1 then (crossbarlaw26_TariffConstantUntilChange.j1 k x1 x2 bt250.1 bt250.2.1 bt253.1 bt253.2 true x248000) else (crossbarlaw26_TariffConstantUntilChange.j1 k x1 x2 bt250.1 bt250.2.1 bt253.1 bt253.2 (decide (bt250.1 > (wrap64 (x1 + 86400)))) x248000)) else (crossbarlaw26_TariffConstantUntilChange.j1 k x1 x2 bt250.1 bt250.2.1 bt253.1 bt253.2 false x248000))) else (if bt250.1 = 0 then (some (!bt250.2.1)) else (some false))))
def crossbarlaw26_TariffConstantUntilChange.j1 : Nat → Int → Int → Int → Bool → Int → Int → Bool → List (S42) → Option (Bool)
 | 0, _, _, _, _, _, _, _, _ => none
 | k + 1, x1, x2, x7, x8, x10, x11, x71, x248000 => if x71 = true then (some false) else (if x8 = true then ((tariff_Rate.f k x248000 x7).bind fun bt255 => ((tariff_Price.f k x248000 x1 x7).bind fun bt257 => (if bt255.2 = 0 then (if bt257.2 = 0 then (if bt255.1 = x10 then (some false) else (if bt257.1 = (wrap64 ((wrap64 (x7 - x1)) * x10)) then ((tariff_Rate.f k x248000 (wrap64 (x1 + x2))).bind fun bt259 => (if x11 = 0 then (if bt259.2 = 0 then (if (wrap64 (x1 + x2)) ≥ x7 then (some true) else (some (bt259.1 == x10))) else (some false)) else (some false))) else (some false))) else (some false)) else (some false)))) else ((tariff_Rate.f k x248000 (wrap64 (x1 + x2))).bind fun bt261 => (if x11 = 0 then (if bt261.2 = 0 then (some (bt261.1 == x10)) else (some false)) else (some false))))
end
def crossbarlaw26_TariffConstantUntilChange.f (k : Nat) (l0_0 : List (S42)) (a1 : Int) (a2 : Int) : Option (Bool) := (crossbarlaw26_sane.f k).bind fun t248 => (if t248 = true then ((crossbarref26_Few.f l0_0).bind fun t249 => (if t249 = true then (if a2 < 0 then (crossbarlaw26_TariffConstantUntilChange.j0 k a1 a2 true l0_0) else (if a2 > 200000 then (crossbarlaw26_TariffConstantUntilChange.j0 k a1 a2 true l0_0) else (if a1 < 0 then (crossbarlaw26_TariffConstantUntilChange.j0 k a1 a2 true l0_0) else (crossbarlaw26_TariffConstantUntilChange.j0 k a1 a2 (decide (a1 > 1099511327776)) l0_0)))) else (crossbarlaw26_TariffConstantUntilChange.j0 k a1 a2 true l0_0))) else (some false))
theorem crossbarlaw26_TariffConstantUntilChange.mono_l : ∀ k, (∀ y0 y1 y2 y3, LeO (crossbarlaw26_TariffConstantUntilChange.j0 k y0 y1 y2 y3) (crossbarlaw26_TariffConstantUntilChange.j0 (k + 1) y0 y1 y2 y3)) ∧ (∀ y0 y1 y2 y3 y4 y5 y6 y7, LeO (crossbarlaw26_TariffConstantUntilChange.j1 k y0 y1 y2 y3 y4 y5 y6 y7) (crossbarlaw26_TariffConstantUntilChange.j1 (k + 1) y0 y1 y2 y3 y4 y5 y6 y7))
 | 0 => ⟨fun _ _ _ _ r h => by simp [crossbarlaw26_TariffConstantUntilChange.j0] at h, fun _ _ _ _ _ _ _ _ r h => by simp [crossbarlaw26_TariffConstantUntilChange.j1] at h⟩
 | k + 1 => by
  obtain ⟨ih0, ih1⟩ := crossbarlaw26_TariffConstantUntilChange.mono_l k
  refine ⟨?_, ?_⟩
  ·intro y0 y1 y2 y3
   unfold crossbarlaw26_TariffConstantUntilChange.j0
   repeat' first
   | (with_reducible exact ih0 _ _ _ _)
   | (with_reducible exact ih1 _ _ _ _ _ _ _ _)
   | (with_reducible exact crossbarlaw26_sane.mono _)
   | (with_reducible exact tariff_Change.mono _ _ _)
   | (with_reducible exact tariff_Price.mono _ _ _ _)
   | (with_reducible exact tariff_Rate.mono _ _ _)
   | (with_reducible exact LeO.refl _)
   | (with_reducible exact LeO.none _)
   | (with_reducible refine LeO.ite ?_ ?_)
   | (with_reducible refine LeO.bind ?_ (fun _ => ?_))
   | exact ih0 _ _ _ _
   | exact ih1 _ _ _ _ _ _ _ _
   | exact crossbarlaw26_sane.mono _
   | exact tariff_Change.mono _ _ _
   | exact tariff_Price.mono _ _ _ _
   | exact tariff_Rate.mono _ _ _
   | exact LeO.none _
   | refine LeO.ite ?_ ?_
   | refine LeO.bind ?_ (fun _ => ?_)
  ·intro y0 y1 y2 y3 y4 y5 y6 y7
   unfold crossbarlaw26_TariffConstantUntilChange.j1
   repeat' first
   | (with_reducible exact ih0 _ _ _ _)
   | (with_reducible exact ih1 _ _ _ _ _ _ _ _)
   | (with_reducible exact crossbarlaw26_sane.mono _)
   | (with_reducible exact tariff_Change.mono _ _ _)
   | (with_reducible exact tariff_Price.mono _ _ _ _)
   | (with_reducible exact tariff_Rate.mono _ _ _)
   | (with_reducible exact LeO.refl _)
   | (with_reducible exact LeO.none _)
   | (with_reducible refine LeO.ite ?_ ?_)
   | (with_reducible refine LeO.bind ?_ (fun _ => ?_))
   | exact ih0 _ _ _ _
   | exact ih1 _ _ _ _ _ _ _ _
   | exact crossbarlaw26_sane.mono _
   | exact tariff_Change.mono _ _ _
   | exact tariff_Price.mono _ _ _ _
   | exact tariff_Rate.mono _ _ _
   | exact LeO.none _
   | refine LeO.ite ?_ ?_
   | refine LeO.bind ?_ (fun _ => ?_)
theorem crossbarlaw26_TariffConstantUntilChange.mono : ∀ a0 a1 a2 k, LeO (crossbarlaw26_TariffConstantUntilChange.f k a0 a1 a2) (crossbarlaw26_TariffConstantUntilChange.f (k + 1) a0 a1 a2) := by
 intro a0 a1 a2 k
 obtain ⟨ih0, ih1⟩ := crossbarlaw26_TariffConstantUntilChange.mono_l k
 unfold crossbarlaw26_TariffConstantUntilChange.f
 repeat' first
   | (with_reducible exact ih0 _ _ _ _)
   | (with_reducible exact ih1 _ _ _ _ _ _ _ _)
   | (with_reducible exact crossbarlaw26_sane.mono _)
   | (with_reducible exact tariff_Change.mono _ _ _)
   | (with_reducible exact tariff_Price.mono _ _ _ _)
   | (with_reducible exact tariff_Rate.mono _ _ _)
   | (with_reducible exact LeO.refl _)
   | (with_reducible exact LeO.none _)
   | (with_reducible refine LeO.ite ?_ ?_)
   | (with_reducible refine LeO.bind ?_ (fun _ => ?_))
   | exact ih0 _ _ _ _
   | exact ih1 _ _ _ _ _ _ _ _
   | exact crossbarlaw26_sane.mono _
   | exact tariff_Change.mono _ _ _
   | exact tariff_Price.mono _ _ _ _
   | exact tariff_Rate.mono _ _ _
   | exact LeO.none _
   | refine LeO.ite ?_ ?_
   | refine LeO.bind ?_ (fun _ => ?_)
set_option maxHeartbeats 8000000 in
set_option maxRecDepth 100000 in
theorem crossbarlaw26_TariffConstantUntilChange.calls (k : Nat) (A0_0 : Option Addr) (c0_0 : Nat) (l0_0 : List (S42)) (a1 : Int) (a2 : Int) (r : Bool) (w : World) (hr0_0 : Kd.C k42 w A0_0 l0_0.length l0_0) (hc0_0 : l0_0.length ≤ c0_0) (h : crossbarlaw26_TariffConstantUntilChange.f k l0_0 a1 a2 = some r) (hT : r = true := by rfl) :
  Calls Try.prog 7 #[.agg #[.slice A0_0 l0_0.length c0_0], .int .i64 a1, .int .i64 a2] w fun e w' => e = .returned (.bool r) ∧ Below w.heap.size w w' := by
 have HT_TRUE := Aside0.mk hT
 clear hT
 have hu24 := Try.underlying24
 have HR0_0 := Aside0.mk hr0_0
 have HC0_0 := Aside0.mk hc0_0
 clear hr0_0 hc0_0
 have HB := Aside0.mk (Below.refl w.heap.size w)
 have H : ((crossbarlaw26_sane.f k).bind fun t248 => (if t248 = true then ((crossbarref26_Few.f l0_0).bind fun t249 => (if t249 = true then (if a2 < 0 then (crossbarlaw26_TariffConstantUntilChange.j0 k a1 a2 true l0_0) else (if a2 > 200000 then (crossbarlaw26_TariffConstantUntilChange.j0 k a1 a2 true l0_0) else (if a1 < 0 then (crossbarlaw26_TariffConstantUntilChange.j0 k a1 a2 true l0_0) else (crossbarlaw26_TariffConstantUntilChange.j0 k a1 a2 (decide (a1 > 1099511327776)) l0_0)))) else (crossbarlaw26_TariffConstantUntilChange.j0 k a1 a2 true l0_0))) else (some false))) = some r := h
 clear h
 replace H := Option.bind_eq_some_iff.mp H
 obtain ⟨t248, A40, H⟩ := H
 replace H : (if t248 = true then ((crossbarref26_Few.f l0_0).bind fun t249 => (if t249 = true then (if a2 < 0 then (crossbarlaw26_TariffConstantUntilChange.j0 k a1 a2 true l0_0) else (if a2 > 200000 then (crossbarlaw26_TariffConstantUntilChange.j0 k a1 a2 true l0_0) else (if a1 < 0 then (crossbarlaw26_TariffConstantUntilChange.j0 k a1 a2 true l0_0) else (crossbarlaw26_TariffConstantUntilChange.j0 k a1 a2 (decide (a1 > 1099511327776)) l0_0)))) else (crossbarlaw26_TariffConstantUntilChange.j0 k a1 a2 true l0_0))) else (some false)) = some r := H
 have A4 := Aside0.mk A40
 clear A40
 by_cases c5 : t248 = true
 ·subst c5
  have H1 : ((crossbarref26_Few.f l0_0).bind fun t249 => (if t249 = true then (if a2 < 0 then (crossbarlaw26_TariffConstantUntilChange.j0 k a1 a2 true l0_0) else (if a2 > 200000 then (crossbarlaw26_TariffConstantUntilChange.j0 k a1 a2 true l0_0) else (if a1 < 0 then (crossbarlaw26_TariffConstantUntilChange.j0 k a1 a2 true l0_0) else (crossbarlaw26_TariffConstantUntilChange.j0 k a1 a2 (decide (a1 > 1099511327776)) l0_0)))) else (crossbarlaw26_TariffConstantUntilChange.j0 k a1 a2 true l0_0))) = some r := by rw [if_pos rfl] at H; exact H
  clear H
  have H := H1
  clear H1
  have HC6 := Aside0.mk H
  clear H
  go_enter Try.func7, Try.ntmps7
  go_upto_region 3 with (first | ((with_reducible refine gate_dst (N := 3) rfl ?_); refine box_event ?hg (N := 3) ?hd (cs := #[.slice A0_0 l0_0.length c0_0]) (t := 24) ?hr ?_; (case hd => rfl); (case hg => rfl); (case hr => first | (go_simp; done) | (go_simp; rfl)); intro gb247 hg w7 hbox hb; have n0_ := Aside0.mk (below_step (by repeat (first | (with_reducible first | exact HB.out | apply below_alloc | apply pw_below_drewN | apply below_drew1) | exact HB.out)) hb); have n1_ := Aside0.mk (hbox); have n2_ := Aside0.mk ((by rw [hg]; exact (below_size (by repeat (first | (with_reducible first | exact HB.out | apply below_alloc | apply pw_below_drewN | apply below_drew1) | exact HB.out))) : w.heap.size ≤ gb247)); have n3_ := Aside0.mk ((by rw [hg]; exact (below_size (by repeat (first | (with_reducible first | exact HB.out | apply below_alloc | apply pw_below_drewN | apply below_drew1) | exact HB.out))) : w.heap.size ≤ gb247)); clear HB; have HB := n0_; have BK247 := n1_; have GW247 := n2_; have GE247 := n3_; clear n0_ n1_ n2_ n3_; clear hb hbox hg) | ((with_reducible refine gate_callee (f := 20) rfl ?_); refine goesL_ (some 18) rfl rfl Try.func20 (by kernel_rfl) rfl #[] rfl (by (try simp only [List.map_toArray, List.map_cons, List.map_nil]); first | done | rfl | (simp only [List.length_drop, List.length_take]; rfl)) ?_; (with_reducible refine (crossbarlaw26_sane.calls k  true _ A4.out).mono ?_); rintro e w8 ⟨rfl, hb⟩; refine ⟨_, rfl, ?_⟩; have n0_ := Aside0.mk (blk_below (g := gb247) (o := .cells #[.slice A0_0 l0_0.length c0_0] 24 (0, 0)) (by (with_reducible repeat (first | refine blk_drewN ?_ _ | refine blk_drew ?_ | refine blk_alloc ?_ _)); exact BK247.out) hb); have n1_ := Aside0.mk (below_step (by repeat (first | (with_reducible first | exact HB.out | apply below_alloc | apply pw_below_drewN | apply below_drew1 | refine below_set ?_ GE247.out) | exact HB.out)) hb); clear BK247; clear HB; have BK247 := n0_; have HB := n1_; clear n0_ n1_; (try clear hb); (try clear hb2); (try clear hk); (try clear hi)))
  (try simp only [Act.put, List.setIfInBounds_toArray, List.set_cons_zero, List.set_cons_succ])
  go_cut [38] (fun v38 wc => ∃ (kq : Nat) (x38_5 : Bool), v38 = .bool x38_5 ∧ Aside0 (crossbarlaw26_TariffConstantUntilChange.j0 kq a1 a2 x38_5 l0_0 = some r) ∧ Aside0 (kq ≤ k) ∧ Aside0 (wc.heap[gb247]? = some (.cells #[(.slice A0_0 l0_0.length c0_0)] 24 (0, 0))) ∧ Aside0 (Below w.heap.size w wc))
  case first =>
   have H := HC6.out
   clear HC6
   replace H := Option.bind_eq_some_iff.mp H
   obtain ⟨t249, A90, H⟩ := H
   replace H : (if t249 = true then (if a2 < 0 then (crossbarlaw26_TariffConstantUntilChange.j0 k a1 a2 true l0_0) else (if a2 > 200000 then (crossbarlaw26_TariffConstantUntilChange.j0 k a1 a2 true l0_0) else (if a1 < 0 then (crossbarlaw26_TariffConstantUntilChange.j0 k a1 a2 true l0_0) else (crossbarlaw26_TariffConstantUntilChange.j0 k a1 a2 (decide (a1 > 1099511327776)) l0_0)))) else (crossbarlaw26_TariffConstantUntilChange.j0 k a1 a2 true l0_0)) = some r := H
   have A9 := Aside0.mk A90
   clear A90
   by_cases c10 : t249 = true
   ·subst c10
    have H1 : (if a2 < 0 then (crossbarlaw26_TariffConstantUntilChange.j0 k a1 a2 true l0_0) else (if a2 > 200000 then (crossbarlaw26_TariffConstantUntilChange.j0 k a1 a2 true l0_0) else (if a1 < 0 then (crossbarlaw26_TariffConstantUntilChange.j0 k a1 a2 true l0_0) else (crossbarlaw26_TariffConstantUntilChange.j0 k a1 a2 (decide (a1 > 1099511327776)) l0_0)))) = some r := by rw [if_pos rfl] at H; exact H
    clear H
    have H := H1
    clear H1
    by_cases c11 : a2 < 0
    ·rw [if_pos c11] at H
     have c11b0 : decide (a2 < 0) = true := decide_eq_true c11
     clear c11
     (first | rw [c11b0] | (simp only [i64_w, i32_w]; rw [c11b0]) | skip)
     have H' := Aside0.mk H
     clear H
     have hcz12_0 : w8.cell? ⟨gb247, 0, none⟩ = some (.slice A0_0 l0_0.length c0_0) := (blk_cell BK247.out 0).trans rfl
     have hfz12_0 := blk_frozen BK247.out 0
     go_wp2_with (first | ((with_reducible refine gate_callee (f := 21) rfl ?_); refine goesL_ (some 21) rfl rfl Try.func21 (by kernel_rfl) rfl #[.agg #[.slice A0_0 l0_0.length c0_0]] rfl (by (try simp only [List.map_toArray, List.map_cons, List.map_nil]); first | done | rfl | (simp only [List.length_drop, List.length_take]; rfl)) ?_; (with_reducible refine (crossbarref26_Few.calls _ _ l0_0 true _ ?side1 ?side2 A9.out).mono ?_); (case side1 => repeat (first | exact (Kd.C_below HR0_0.out HB.out) | (with_reducible refine Kd.C_alloc ?_ _) | (with_reducible refine Kd.C_drewN ?_ _) | (with_reducible refine Kd.C_drew ?_))); (case side2 => exact HC0_0.out); rintro e w13 ⟨rfl, hb⟩; refine ⟨_, rfl, ?_⟩; have n0_ := Aside0.mk (blk_below (g := gb247) (o := .cells #[.slice A0_0 l0_0.length c0_0] 24 (0, 0)) (by (with_reducible repeat (first | refine blk_drewN ?_ _ | refine blk_drew ?_ | refine blk_alloc ?_ _)); exact BK247.out) hb); have n1_ := Aside0.mk (below_step (by repeat (first | (with_reducible first | exact HB.out | apply below_alloc | apply pw_below_drewN | apply below_drew1 | refine below_set ?_ GE247.out) | exact HB.out)) hb); clear BK247; clear HB; have BK247 := n0_; have HB := n1_; clear n0_ n1_; (try clear hb); (try clear hb2); (try clear hk); (try clear hi)))
     go_meet
     case rel => exact ⟨_, (true), (by first | rfl | (simp; done) | (simp [*]; done)), H', ⟨by first | omega | exact Nat.le_refl _⟩, ⟨by (with_reducible repeat (first | refine blk_drewN ?_ _ | refine blk_drew ?_ | refine blk_alloc ?_ _)); exact BK247.out⟩, ⟨by repeat (first | (with_reducible first | exact HB.out | apply below_alloc | apply pw_below_drewN | apply below_drew1 | refine below_set ?_ GE247.out) | exact HB.out)⟩⟩
    ·rw [if_neg c11] at H
     have c11b0 : decide (a2 < 0) = false := decide_eq_false c11
     clear c11
     (first | rw [c11b0] | (simp only [i64_w, i32_w]; rw [c11b0]) | skip)
     by_cases c14 : a2 > 200000
     ·rw [if_pos c14] at H
      have c14b0 : decide (200000 < a2) = true := decide_eq_true c14
      clear c14
      have H' := Aside0.mk H
      clear H
      have hcz15_0 : w8.cell? ⟨gb247, 0, none⟩ = some (.slice A0_0 l0_0.length c0_0) := (blk_cell BK247.out 0).trans rfl
      have hfz15_0 := blk_frozen BK247.out 0
      go_wp2_with (first | ((with_reducible refine gate_callee (f := 21) rfl ?_); refine goesL_ (some 21) rfl rfl Try.func21 (by kernel_rfl) rfl #[.agg #[.slice A0_0 l0_0.length c0_0]] rfl (by (try simp only [List.map_toArray, List.map_cons, List.map_nil]); first | done | rfl | (simp only [List.length_drop, List.length_take]; rfl)) ?_; (with_reducible refine (crossbarref26_Few.calls _ _ l0_0 true _ ?side1 ?side2 A9.out).mono ?_); (case side1 => repeat (first | exact (Kd.C_below HR0_0.out HB.out) | (with_reducible refine Kd.C_alloc ?_ _) | (with_reducible refine Kd.C_drewN ?_ _) | (with_reducible refine Kd.C_drew ?_))); (case side2 => exact HC0_0.out); rintro e w16 ⟨rfl, hb⟩; refine ⟨_, rfl, ?_⟩; have n0_ := Aside0.mk (blk_below (g := gb247) (o := .cells #[.slice A0_0 l0_0.length c0_0] 24 (0, 0)) (by (with_reducible repeat (first | refine blk_drewN ?_ _ | refine blk_drew ?_ | refine blk_alloc ?_ _)); exact BK247.out) hb); have n1_ := Aside0.mk (below_step (by repeat (first | (with_reducible first | exact HB.out | apply below_alloc | apply pw_below_drewN | apply below_drew1 | refine below_set ?_ GE247.out) | exact HB.out)) hb); clear BK247; clear HB; have BK247 := n0_; have HB := n1_; clear n0_ n1_; (try clear hb); (try clear hb2); (try clear hk); (try clear hi)))
      go_meet
      case rel => exact ⟨_, (true), (by first | rfl | (simp; done) | (simp [*]; done)), H', ⟨by first | omega | exact Nat.le_refl _⟩, ⟨by (with_reducible repeat (first | refine blk_drewN ?_ _ | refine blk_drew ?_ | refine blk_alloc ?_ _)); exact BK247.out⟩, ⟨by repeat (first | (with_reducible first | exact HB.out | apply below_alloc | apply pw_below_drewN | apply below_drew1 | refine below_set ?_ GE247.out) | exact HB.out)⟩⟩
     ·rw [if_neg c14] at H
      have c14b0 : decide (200000 < a2) = false := decide_eq_false c14
      clear c14
      by_cases c17 : a1 < 0
      ·rw [if_pos c17] at H
       have c17b0 : decide (a1 < 0) = true := decide_eq_true c17
       clear c17
       have H' := Aside0.mk H
       clear H
       have hcz18_0 : w8.cell? ⟨gb247, 0, none⟩ = some (.slice A0_0 l0_0.length c0_0) := (blk_cell BK247.out 0).trans rfl
       have hfz18_0 := blk_frozen BK247.out 0
       go_wp2_with (first | ((with_reducible refine gate_callee (f := 21) rfl ?_); refine goesL_ (some 21) rfl rfl Try.func21 (by kernel_rfl) rfl #[.agg #[.slice A0_0 l0_0.length c0_0]] rfl (by (try simp only [List.map_toArray, List.map_cons, List.map_nil]); first | done | rfl | (simp only [List.length_drop, List.length_take]; rfl)) ?_; (with_reducible refine (crossbarref26_Few.calls _ _ l0_0 true _ ?side1 ?side2 A9.out).mono ?_); (case side1 => repeat (first | exact (Kd.C_below HR0_0.out HB.out) | (with_reducible refine Kd.C_alloc ?_ _) | (with_reducible refine Kd.C_drewN ?_ _) | (with_reducible refine Kd.C_drew ?_))); (case side2 => exact HC0_0.out); rintro e w19 ⟨rfl, hb⟩; refine ⟨_, rfl, ?_⟩; have n0_ := Aside0.mk (blk_below (g := gb247) (o := .cells #[.slice A0_0 l0_0.length c0_0] 24 (0, 0)) (by (with_reducible repeat (first | refine blk_drewN ?_ _ | refine blk_drew ?_ | refine blk_alloc ?_ _)); exact BK247.out) hb); have n1_ := Aside0.mk (below_step (by repeat (first | (with_reducible first | exact HB.out | apply below_alloc | apply pw_below_drewN | apply below_drew1 | refine below_set ?_ GE247.out) | exact HB.out)) hb); clear BK247; clear HB; have BK247 := n0_; have HB := n1_; clear n0_ n1_; (try clear hb); (try clear hb2); (try clear hk); (try clear hi)))
       go_meet
       case rel => exact ⟨_, (true), (by first | rfl | (simp; done) | (simp [*]; done)), H', ⟨by first | omega | exact Nat.le_refl _⟩, ⟨by (with_reducible repeat (first | refine blk_drewN ?_ _ | refine blk_drew ?_ | refine blk_alloc ?_ _)); exact BK247.out⟩, ⟨by repeat (first | (with_reducible first | exact HB.out | apply below_alloc | apply pw_below_drewN | apply below_drew1 | refine below_set ?_ GE247.out) | exact HB.out)⟩⟩
      ·rw [if_neg c17] at H
       have c17b0 : decide (a1 < 0) = false := decide_eq_false c17
       clear c17
       have H' := Aside0.mk H
       clear H
       have hcz20_0 : w8.cell? ⟨gb247, 0, none⟩ = some (.slice A0_0 l0_0.length c0_0) := (blk_cell BK247.out 0).trans rfl
       have hfz20_0 := blk_frozen BK247.out 0
       go_wp2_with (first | ((with_reducible refine gate_callee (f := 21) rfl ?_); refine goesL_ (some 21) rfl rfl Try.func21 (by kernel_rfl) rfl #[.agg #[.slice A0_0 l0_0.length c0_0]] rfl (by (try simp only [List.map_toArray, List.map_cons, List.map_nil]); first | done | rfl | (simp only [List.length_drop, List.length_take]; rfl)) ?_; (with_reducible refine (crossbarref26_Few.calls _ _ l0_0 true _ ?side1 ?side2 A9.out).mono ?_); (case side1 => repeat (first | exact (Kd.C_below HR0_0.out HB.out) | (with_reducible refine Kd.C_alloc ?_ _) | (with_reducible refine Kd.C_drewN ?_ _) | (with_reducible refine Kd.C_drew ?_))); (case side2 => exact HC0_0.out); rintro e w21 ⟨rfl, hb⟩; refine ⟨_, rfl, ?_⟩; have n0_ := Aside0.mk (blk_below (g := gb247) (o := .cells #[.slice A0_0 l0_0.length c0_0] 24 (0, 0)) (by (with_reducible repeat (first | refine blk_drewN ?_ _ | refine blk_drew ?_ | refine blk_alloc ?_ _)); exact BK247.out) hb); have n1_ := Aside0.mk (below_step (by repeat (first | (with_reducible first | exact HB.out | apply below_alloc | apply pw_below_drewN | apply below_drew1 | refine below_set ?_ GE247.out) | exact HB.out)) hb); clear BK247; clear HB; have BK247 := n0_; have HB := n1_; clear n0_ n1_; (try clear hb); (try clear hb2); (try clear hk); (try clear hi)))
       go_meet
       case rel => exact ⟨_, (decide (a1 > 1099511327776)), (by first | rfl | (simp; done) | (simp [*]; done)), H', ⟨by first | omega | exact Nat.le_refl _⟩, ⟨by (with_reducible repeat (first | refine blk_drewN ?_ _ | refine blk_drew ?_ | refine blk_alloc ?_ _)); exact BK247.out⟩, ⟨by repeat (first | (with_reducible first | exact HB.out | apply below_alloc | apply pw_below_drewN | apply below_drew1 | refine below_set ?_ GE247.out) | exact HB.out)⟩⟩
   ·replace c10 := Bool.eq_false_iff.mpr c10
    subst c10
    have H1 : (crossbarlaw26_TariffConstantUntilChange.j0 k a1 a2 true l0_0) = some r := by rw [if_neg (show ¬ (false = true) by decide)] at H; exact H
    clear H
    have H := H1
    clear H1
    have H' := Aside0.mk H
    clear H
    have hcz22_0 : w8.cell? ⟨gb247, 0, none⟩ = some (.slice A0_0 l0_0.length c0_0) := (blk_cell BK247.out 0).trans rfl
    have hfz22_0 := blk_frozen BK247.out 0
    go_wp2_with (first | ((with_reducible refine gate_callee (f := 21) rfl ?_); refine goesL_ (some 21) rfl rfl Try.func21 (by kernel_rfl) rfl #[.agg #[.slice A0_0 l0_0.length c0_0]] rfl (by (try simp only [List.map_toArray, List.map_cons, List.map_nil]); first | done | rfl | (simp only [List.length_drop, List.length_take]; rfl)) ?_; (with_reducible refine (crossbarref26_Few.calls _ _ l0_0 false _ ?side1 ?side2 A9.out).mono ?_); (case side1 => repeat (first | exact (Kd.C_below HR0_0.out HB.out) | (with_reducible refine Kd.C_alloc ?_ _) | (with_reducible refine Kd.C_drewN ?_ _) | (with_reducible refine Kd.C_drew ?_))); (case side2 => exact HC0_0.out); rintro e w23 ⟨rfl, hb⟩; refine ⟨_, rfl, ?_⟩; have n0_ := Aside0.mk (blk_below (g := gb247) (o := .cells #[.slice A0_0 l0_0.length c0_0] 24 (0, 0)) (by (with_reducible repeat (first | refine blk_drewN ?_ _ | refine blk_drew ?_ | refine blk_alloc ?_ _)); exact BK247.out) hb); have n1_ := Aside0.mk (below_step (by repeat (first | (with_reducible first | exact HB.out | apply below_alloc | apply pw_below_drewN | apply below_drew1 | refine below_set ?_ GE247.out) | exact HB.out)) hb); clear BK247; clear HB; have BK247 := n0_; have HB := n1_; clear n0_ n1_; (try clear hb); (try clear hb2); (try clear hk); (try clear hi)))
    go_meet
    case rel => exact ⟨_, (true), (by first | rfl | (simp; done) | (simp [*]; done)), H', ⟨by first | omega | exact Nat.le_refl _⟩, ⟨by (with_reducible repeat (first | refine blk_drewN ?_ _ | refine blk_drew ?_ | refine blk_alloc ?_ _)); exact BK247.out⟩, ⟨by repeat (first | (with_reducible first | exact HB.out | apply below_alloc | apply pw_below_drewN | apply below_drew1 | refine below_set ?_ GE247.out) | exact HB.out)⟩⟩
  case rest =>
   clear HC6
   try clear c1
   try clear c2
   try clear p2
   try clear c5
   try clear c7
   try clear c10
   try clear c11
   try clear c11b0
   try clear c14
   try clear c14b0
   try clear c17
   try clear c17b0
   try clear c20
   try clear c21
   try clear hcz12_0
   try clear hcz15_0
   try clear hcz18_0
   try clear hcz20_0
   try clear hcz22_0
   try clear hfz12_0
   try clear hfz15_0
   try clear hfz18_0
   try clear hfz20_0
   try clear hfz22_0
   obtain ⟨kq, x38_5, rfl, HA, HJ5, BK247, HB⟩ := hcut
   cases kq with
   | zero => exact absurd HA.out (by simp [crossbarlaw26_TariffConstantUntilChange.j0])
   | succ kj5 =>
    have H := HA.out
    clear HA
    simp only [crossbarlaw26_TariffConstantUntilChange.j0] at H
    by_cases c24 : x38_5 = true
    ·subst c24
     have H1 : (some true) = some r := by rw [if_pos rfl] at H; exact H
     clear H
     have H := H1
     clear H1
     obtain rfl := Option.some.inj H
     go_wp2
     go_ret
     exact ⟨by first | rfl | (simp [errW_none, errW_some] <;> rfl) | (simp [*, errW_none, errW_some] <;> rfl), by repeat (first | (with_reducible first | exact HB.out | apply below_alloc | apply pw_below_drewN | apply below_drew1 | refine below_set ?_ GE247.out) | exact HB.out)⟩
    ·replace c24 := Bool.eq_false_iff.mpr c24
     subst c24
     have H1 : ((tariff_Change.f kj5 l0_0 a1).bind fun bt250 => (if bt250.2.2 = 0 then ((tariff_Rate.f kj5 l0_0 a1).bind fun bt253 => (if bt250.2.1 = true then (if bt250.1 ≤ a1 then (crossbarlaw26_TariffConstantUntilChange.j1 kj5 a1 a2 bt250.1 bt250.2.1 bt253.1 bt253.2 true l0_0) else (crossbarlaw26_TariffConstantUntilChange.j1 kj5 a1 a2 bt250.1 bt250.2.1 bt253.1 bt253.2 (decide (bt250.1 > (wrap64 (a1 + 86400)))) l0_0)) else (crossbarlaw26_TariffConstantUntilChange.j1 kj5 a1 a2 bt250.1 bt250.2.1 bt253.1 bt253.2 false l0_0))) else (if bt250.1 = 0 then (some (!bt250.2.1)) else (some false)))) = some r := by rw [if_neg (show ¬ (false = true) by decide)] at H; exact H
     clear H
     have H := H1
     clear H1
     replace H := Option.bind_eq_some_iff.mp H
     obtain ⟨⟨t250, t251, t252⟩, A250, H⟩ := H
     replace H : (if t252 = 0 then ((tariff_Rate.f kj5 l0_0 a1).bind fun bt253 => (if t251 = true then (if t250 ≤ a1 then (crossbarlaw26_TariffConstantUntilChange.j1 kj5 a1 a2 t250 t251 bt253.1 bt253.2 true l0_0) else (crossbarlaw26_TariffConstantUntilChange.j1 kj5 a1 a2 t250 t251 bt253.1 bt253.2 (decide (t250 > (wrap64 (a1 + 86400)))) l0_0)) else (crossbarlaw26_TariffConstantUntilChange.j1 kj5 a1 a2 t250 t251 bt253.1 bt253.2 false l0_0))) else (if t250 = 0 then (some (!t251)) else (some false))) = some r := H
     have A25 := Aside0.mk A250
     clear A250
     by_cases c26 : t252 = 0
     ·rw [if_pos c26] at H
      have c26b0 : (t252 == 0) = true := beq_iff_eq.mpr c26
      have c26b1 : (t252 != 0) = false := bne_eq_false_iff_eq.mpr c26
      clear c26
      replace H := Option.bind_eq_some_iff.mp H
      obtain ⟨⟨t253, t254⟩, A270, H⟩ := H
      replace H : (if t251 = true then (if t250 ≤ a1 then (crossbarlaw26_TariffConstantUntilChange.j1 kj5 a1 a2 t250 t251 t253 t254 true l0_0) else (crossbarlaw26_TariffConstantUntilChange.j1 kj5 a1 a2 t250 t251 t253 t254 (decide (t250 > (wrap64 (a1 + 86400)))) l0_0)) else (crossbarlaw26_TariffConstantUntilChange.j1 kj5 a1 a2 t250 t251 t253 t254 false l0_0)) = some r := H
      have A27 := Aside0.mk A270
      clear A270
      have HC28 := Aside0.mk H
      clear H
      have hcz29_0 : wc.cell? ⟨gb247, 0, none⟩ = some (.slice A0_0 l0_0.length c0_0) := (blk_cell BK247.out 0).trans rfl
      have hfz29_0 := blk_frozen BK247.out 0
      go_upto_region 9 with (first | ((with_reducible refine gate_callee (f := 24) rfl ?_); refine goesL_ (some 42) rfl rfl Try.func24 (by kernel_rfl) rfl #[.agg #[.slice A0_0 l0_0.length c0_0], .int .i64 a1] rfl (by (try simp only [List.map_toArray, List.map_cons, List.map_nil]); first | done | rfl | (simp only [List.length_drop, List.length_take]; rfl)) ?_; (with_reducible refine (tariff_Change.calls kj5 _ _ l0_0 a1 t250 t251 t252 _ ?side1 ?side2 A25.out).mono ?_); (case side1 => repeat (first | exact (Kd.C_below HR0_0.out HB.out) | (with_reducible refine Kd.C_alloc ?_ _) | (with_reducible refine Kd.C_drewN ?_ _) | (with_reducible refine Kd.C_drew ?_))); (case side2 => exact HC0_0.out); rintro e w30 ⟨rfl, hb⟩; refine ⟨_, rfl, ?_⟩; have n0_ := Aside0.mk (blk_below (g := gb247) (o := .cells #[.slice A0_0 l0_0.length c0_0] 24 (0, 0)) (by (with_reducible repeat (first | refine blk_drewN ?_ _ | refine blk_drew ?_ | refine blk_alloc ?_ _)); exact BK247.out) hb); have n1_ := Aside0.mk (below_step (by repeat (first | (with_reducible first | exact HB.out | apply below_alloc | apply pw_below_drewN | apply below_drew1 | refine below_set ?_ GE247.out) | exact HB.out)) hb); clear BK247; clear HB; have BK247 := n0_; have HB := n1_; clear n0_ n1_; (try clear hb); (try clear hb2); (try clear hk); (try clear hi); have hcz31_0 : w30.cell? ⟨gb247, 0, none⟩ = some (.slice A0_0 l0_0.length c0_0) := (blk_cell BK247.out 0).trans rfl; have hfz31_0 := blk_frozen BK247.out 0) | ((with_reducible refine gate_callee (f := 22) rfl ?_); refine goesL_ (some 57) rfl rfl Try.func22 (by kernel_rfl) rfl #[.agg #[.slice A0_0 l0_0.length c0_0], .int .i64 a1] rfl (by (try simp only [List.map_toArray, List.map_cons, List.map_nil]); first | done | rfl | (simp only [List.length_drop, List.length_take]; rfl)) ?_; (with_reducible refine (tariff_Rate.calls kj5 _ _ l0_0 a1 t253 t254 _ ?side1 ?side2 A27.out).mono ?_); (case side1 => repeat (first | exact (Kd.C_below HR0_0.out HB.out) | (with_reducible refine Kd.C_alloc ?_ _) | (with_reducible refine Kd.C_drewN ?_ _) | (with_reducible refine Kd.C_drew ?_))); (case side2 => exact HC0_0.out); rintro e w32 ⟨rfl, hb⟩; refine ⟨_, rfl, ?_⟩; have n0_ := Aside0.mk (blk_below (g := gb247) (o := .cells #[.slice A0_0 l0_0.length c0_0] 24 (0, 0)) (by (with_reducible repeat (first | refine blk_drewN ?_ _ | refine blk_drew ?_ | refine blk_alloc ?_ _)); exact BK247.out) hb); have n1_ := Aside0.mk (below_step (by repeat (first | (with_reducible first | exact HB.out | apply below_alloc | apply pw_below_drewN | apply below_drew1 | refine below_set ?_ GE247.out) | exact HB.out)) hb); clear BK247; clear HB; have BK247 := n0_; have HB := n1_; clear n0_ n1_; (try clear hb); (try clear hb2); (try clear hk); (try clear hi)))
      (try simp only [Act.put, List.setIfInBounds_toArray, List.set_cons_zero, List.set_cons_succ])
      go_cut [71] (fun v71 wc => ∃ (kq : Nat) (x71_27 : Bool), v71 = .bool x71_27 ∧ Aside0 (crossbarlaw26_TariffConstantUntilChange.j1 kq a1 a2 t250 t251 t253 t254 x71_27 l0_0 = some r) ∧ Aside0 (kq ≤ kj5) ∧ Aside0 (wc.heap[gb247]? = some (.cells #[(.slice A0_0 l0_0.length c0_0)] 24 (0, 0))) ∧ Aside0 (Below w.heap.size w wc))
      case first =>
       have H := HC28.out
       clear HC28
       by_cases c33 : t251 = true
       ·subst c33
        have H1 : (if t250 ≤ a1 then (crossbarlaw26_TariffConstantUntilChange.j1 kj5 a1 a2 t250 true t253 t254 true l0_0) else (crossbarlaw26_TariffConstantUntilChange.j1 kj5 a1 a2 t250 true t253 t254 (decide (t250 > (wrap64 (a1 + 86400)))) l0_0)) = some r := by rw [if_pos rfl] at H; exact H
        clear H
        have H := H1
        clear H1
        by_cases c34 : t250 ≤ a1
        ·rw [if_pos c34] at H
         have c34b0 : decide (t250 ≤ a1) = true := decide_eq_true c34
         clear c34
         (first | rw [c34b0] | (simp only [i64_w, i32_w]; rw [c34b0]) | skip)
         have H' := Aside0.mk H
         clear H
         go_wp2
         go_meet
         case rel => exact ⟨_, (true), (by first | rfl | (simp; done) | (simp [*]; done)), H', ⟨by have := HJ5.out; first | omega | exact Nat.le_refl _⟩, ⟨by (with_reducible repeat (first | refine blk_drewN ?_ _ | refine blk_drew ?_ | refine blk_alloc ?_ _)); exact BK247.out⟩, ⟨by repeat (first | (with_reducible first | exact HB.out | apply below_alloc | apply pw_below_drewN | apply below_drew1 | refine below_set ?_ GE247.out) | exact HB.out)⟩⟩
        ·rw [if_neg c34] at H
         have c34b0 : decide (t250 ≤ a1) = false := decide_eq_false c34
         clear c34
         (first | rw [c34b0] | (simp only [i64_w, i32_w]; rw [c34b0]) | skip)
         have H' := Aside0.mk H
         clear H
         go_wp2
         go_meet
         case rel => exact ⟨_, (decide (t250 > (wrap64 (a1 + 86400)))), (by first | rfl | (simp; done) | (simp [*]; done)), H', ⟨by have := HJ5.out; first | omega | exact Nat.le_refl _⟩, ⟨by (with_reducible repeat (first | refine blk_drewN ?_ _ | refine blk_drew ?_ | refine blk_alloc ?_ _)); exact BK247.out⟩, ⟨by repeat (first | (with_reducible first | exact HB.out | apply below_alloc | apply pw_below_drewN | apply below_drew1 | refine below_set ?_ GE247.out) | exact HB.out)⟩⟩
       ·replace c33 := Bool.eq_false_iff.mpr c33
        subst c33
        have H1 : (crossbarlaw26_TariffConstantUntilChange.j1 kj5 a1 a2 t250 false t253 t254 false l0_0) = some r := by rw [if_neg (show ¬ (false = true) by decide)] at H; exact H
        clear H
        have H := H1
        clear H1
        have H' := Aside0.mk H
        clear H
        go_wp2
        go_meet
        case rel => exact ⟨_, (false), (by first | rfl | (simp; done) | (simp [*]; done)), H', ⟨by have := HJ5.out; first | omega | exact Nat.le_refl _⟩, ⟨by (with_reducible repeat (first | refine blk_drewN ?_ _ | refine blk_drew ?_ | refine blk_alloc ?_ _)); exact BK247.out⟩, ⟨by repeat (first | (with_reducible first | exact HB.out | apply below_alloc | apply pw_below_drewN | apply below_drew1 | refine below_set ?_ GE247.out) | exact HB.out)⟩⟩
      case rest =>
       clear HC28
       try clear c1
       try clear c2
       try clear p2
       try clear c3
       try clear c5
       try clear p6
       try clear c7
       try clear c10
       try clear c11
       try clear c11b0
       try clear c14
       try clear c14b0
       try clear c17
       try clear c17b0
       try clear c20
       try clear c21
       try clear c22
       try clear c24
       try clear c26
       try clear c26b0
       try clear c26b1
       try clear c33
       try clear c34
       try clear c34b0
       try clear hcz12_0
       try clear hcz15_0
       try clear hcz18_0
       try clear hcz20_0
       try clear hcz22_0
       try clear hcz29_0
       try clear hcz31_0
       try clear hfz12_0
       try clear hfz15_0
       try clear hfz18_0
       try clear hfz20_0
       try clear hfz22_0
       try clear hfz29_0
       try clear hfz31_0
       try clear p2
       obtain ⟨kq, x71_27, rfl, HA, HJ27, BK247, HB⟩ := hcut
       cases kq with
       | zero => exact absurd HA.out (by simp [crossbarlaw26_TariffConstantUntilChange.j1])
       | succ kj27 =>
        have H := HA.out
        clear HA
        simp only [crossbarlaw26_TariffConstantUntilChange.j1] at H
        by_cases c35 : x71_27 = true
        ·subst c35
         have H1 : (some false) = some r := by rw [if_pos rfl] at H; exact H
         clear H
         have H := H1
         clear H1
         exact absurd ((Option.some.inj H).trans HT_TRUE.out) (by simp)
        ·replace c35 := Bool.eq_false_iff.mpr c35
         subst c35
         have H1 : (if t251 = true then ((tariff_Rate.f kj27 l0_0 t250).bind fun bt255 => ((tariff_Price.f kj27 l0_0 a1 t250).bind fun bt257 => (if bt255.2 = 0 then (if bt257.2 = 0 then (if bt255.1 = t253 then (some false) else (if bt257.1 = (wrap64 ((wrap64 (t250 - a1)) * t253)) then ((tariff_Rate.f kj27 l0_0 (wrap64 (a1 + a2))).bind fun bt259 => (if t254 = 0 then (if bt259.2 = 0 then (if (wrap64 (a1 + a2)) ≥ t250 then (some true) else (some (bt259.1 == t253))) else (some false)) else (some false))) else (some false))) else (some false)) else (some false)))) else ((tariff_Rate.f kj27 l0_0 (wrap64 (a1 + a2))).bind fun bt261 => (if t254 = 0 then (if bt261.2 = 0 then (some (bt261.1 == t253)) else (some false)) else (some false)))) = some r := by rw [if_neg (show ¬ (false = true) by decide)] at H; exact H
         clear H
         have H := H1
         clear H1
         by_cases c36 : t251 = true
         ·subst c36
          have H1 : ((tariff_Rate.f kj27 l0_0 t250).bind fun bt255 => ((tariff_Price.f kj27 l0_0 a1 t250).bind fun bt257 => (if bt255.2 = 0 then (if bt257.2 = 0 then (if bt255.1 = t253 then (some false) else (if bt257.1 = (wrap64 ((wrap64 (t250 - a1)) * t253)) then ((tariff_Rate.f kj27 l0_0 (wrap64 (a1 + a2))).bind fun bt259 => (if t254 = 0 then (if bt259.2 = 0 then (if (wrap64 (a1 + a2)) ≥ t250 then (some true) else (some (bt259.1 == t253))) else (some false)) else (some false))) else (some false))) else (some false)) else (some false)))) = some r := by rw [if_pos rfl] at H; exact H
          clear H
          have H := H1
          clear H1
          replace H := Option.bind_eq_some_iff.mp H
          obtain ⟨⟨t255, t256⟩, A370, H⟩ := H
          replace H : ((tariff_Price.f kj27 l0_0 a1 t250).bind fun bt257 => (if t256 = 0 then (if bt257.2 = 0 then (if t255 = t253 then (some false) else (if bt257.1 = (wrap64 ((wrap64 (t250 - a1)) * t253)) then ((tariff_Rate.f kj27 l0_0 (wrap64 (a1 + a2))).bind fun bt259 => (if t254 = 0 then (if bt259.2 = 0 then (if (wrap64 (a1 + a2)) ≥ t250 then (some true) else (some (bt259.1 == t253))) else (some false)) else (some false))) else (some false))) else (some false)) else (some false))) = some r := H
          have A37 := Aside0.mk A370
          clear A370
          replace H := Option.bind_eq_some_iff.mp H
          obtain ⟨⟨t257, t258⟩, A380, H⟩ := H
          replace H : (if t256 = 0 then (if t258 = 0 then (if t255 = t253 then (some false) else (if t257 = (wrap64 ((wrap64 (t250 - a1)) * t253)) then ((tariff_Rate.f kj27 l0_0 (wrap64 (a1 + a2))).bind fun bt259 => (if t254 = 0 then (if bt259.2 = 0 then (if (wrap64 (a1 + a2)) ≥ t250 then (some true) else (some (bt259.1 == t253))) else (some false)) else (some false))) else (some false))) else (some false)) else (some false)) = some r := H
          have A38 := Aside0.mk A380
          clear A380
          by_cases c39 : t256 = 0
          ·rw [if_pos c39] at H
           have c39b0 : (t256 == 0) = true := beq_iff_eq.mpr c39
           have c39b1 : (t256 != 0) = false := bne_eq_false_iff_eq.mpr c39
           clear c39
           by_cases c40 : t258 = 0
           ·rw [if_pos c40] at H
            have c40b0 : (t258 == 0) = true := beq_iff_eq.mpr c40
            have c40b1 : (t258 != 0) = false := bne_eq_false_iff_eq.mpr c40
            clear c40
            by_cases c41 : t255 = t253
            ·rw [if_pos c41] at H
             have c41b0 : (t255 == t253) = true := beq_iff_eq.mpr c41
             have c41b1 : (t255 != t253) = false := bne_eq_false_iff_eq.mpr c41
             clear c41
             exact absurd ((Option.some.inj H).trans HT_TRUE.out) (by simp)
            ·rw [if_neg c41] at H
             have c41b0 : (t255 == t253) = false := beq_eq_false_iff_ne.mpr c41
             have c41b1 : (t255 != t253) = true := bne_iff_ne.mpr c41
             by_cases c42 : t257 = (wrap64 ((wrap64 (t250 - a1)) * t253))
             ·rw [if_pos c42] at H
              have c42b0 : (t257 == (wrap64 ((wrap64 (t250 - a1)) * t253))) = true := beq_iff_eq.mpr c42
              have c42b1 : (t257 != (wrap64 ((wrap64 (t250 - a1)) * t253))) = false := bne_eq_false_iff_eq.mpr c42
              clear c42
              replace H := Option.bind_eq_some_iff.mp H
              obtain ⟨⟨t259, t260⟩, A430, H⟩ := H
              replace H : (if t254 = 0 then (if t260 = 0 then (if (wrap64 (a1 + a2)) ≥ t250 then (some true) else (some (t259 == t253))) else (some false)) else (some false)) = some r := H
              have A43 := Aside0.mk A430
              clear A430
              by_cases c44 : t254 = 0
              ·rw [if_pos c44] at H
               have c44b0 : (t254 == 0) = true := beq_iff_eq.mpr c44
               have c44b1 : (t254 != 0) = false := bne_eq_false_iff_eq.mpr c44
               clear c44
               by_cases c45 : t260 = 0
               ·rw [if_pos c45] at H
                have c45b0 : (t260 == 0) = true := beq_iff_eq.mpr c45
                have c45b1 : (t260 != 0) = false := bne_eq_false_iff_eq.mpr c45
                clear c45
                by_cases c46 : (wrap64 (a1 + a2)) ≥ t250
                ·rw [if_pos c46] at H
                 have c46b0 : decide (t250 ≤ (wrap64 (a1 + a2))) = true := decide_eq_true c46
                 clear c46
                 obtain rfl := Option.some.inj H
                 have hcz47_0 : wc.cell? ⟨gb247, 0, none⟩ = some (.slice A0_0 l0_0.length c0_0) := (blk_cell BK247.out 0).trans rfl
                 have hfz47_0 := blk_frozen BK247.out 0
                 go_wp2_with (first | ((with_reducible refine gate_callee (f := 22) rfl ?_); refine goesL_ (some 76) rfl rfl Try.func22 (by kernel_rfl) rfl #[.agg #[.slice A0_0 l0_0.length c0_0], .int .i64 t250] rfl (by (try simp only [List.map_toArray, List.map_cons, List.map_nil]); first | done | rfl | (simp only [List.length_drop, List.length_take]; rfl)) ?_; (with_reducible refine (tariff_Rate.calls kj27 _ _ l0_0 t250 t255 t256 _ ?side1 ?side2 A37.out).mono ?_); (case side1 => repeat (first | exact (Kd.C_below HR0_0.out HB.out) | (with_reducible refine Kd.C_alloc ?_ _) | (with_reducible refine Kd.C_drewN ?_ _) | (with_reducible refine Kd.C_drew ?_))); (case side2 => exact HC0_0.out); rintro e w48 ⟨rfl, hb⟩; refine ⟨_, rfl, ?_⟩; have n0_ := Aside0.mk (blk_below (g := gb247) (o := .cells #[.slice A0_0 l0_0.length c0_0] 24 (0, 0)) (by (with_reducible repeat (first | refine blk_drewN ?_ _ | refine blk_drew ?_ | refine blk_alloc ?_ _)); exact BK247.out) hb); have n1_ := Aside0.mk (below_step (by repeat (first | (with_reducible first | exact HB.out | apply below_alloc | apply pw_below_drewN | apply below_drew1 | refine below_set ?_ GE247.out) | exact HB.out)) hb); clear BK247; clear HB; have BK247 := n0_; have HB := n1_; clear n0_ n1_; (try clear hb); (try clear hb2); (try clear hk); (try clear hi); have hcz49_0 : w48.cell? ⟨gb247, 0, none⟩ = some (.slice A0_0 l0_0.length c0_0) := (blk_cell BK247.out 0).trans rfl; have hfz49_0 := blk_frozen BK247.out 0) | ((with_reducible refine gate_callee (f := 28) rfl ?_); refine goesL_ (some 83) rfl rfl Try.func28 (by kernel_rfl) rfl #[.agg #[.slice A0_0 l0_0.length c0_0], .int .i64 a1, .int .i64 t250] rfl (by (try simp only [List.map_toArray, List.map_cons, List.map_nil]); first | done | rfl | (simp only [List.length_drop, List.length_take]; rfl)) ?_; (with_reducible refine (tariff_Price.calls kj27 _ _ l0_0 a1 t250 t257 t258 _ ?side1 ?side2 A38.out).mono ?_); (case side1 => repeat (first | exact (Kd.C_below HR0_0.out HB.out) | (with_reducible refine Kd.C_alloc ?_ _) | (with_reducible refine Kd.C_drewN ?_ _) | (with_reducible refine Kd.C_drew ?_))); (case side2 => exact HC0_0.out); rintro e w50 ⟨rfl, hb⟩; refine ⟨_, rfl, ?_⟩; have n0_ := Aside0.mk (blk_below (g := gb247) (o := .cells #[.slice A0_0 l0_0.length c0_0] 24 (0, 0)) (by (with_reducible repeat (first | refine blk_drewN ?_ _ | refine blk_drew ?_ | refine blk_alloc ?_ _)); exact BK247.out) hb); have n1_ := Aside0.mk (below_step (by repeat (first | (with_reducible first | exact HB.out | apply below_alloc | apply pw_below_drewN | apply below_drew1 | refine below_set ?_ GE247.out) | exact HB.out)) hb); clear BK247; clear HB; have BK247 := n0_; have HB := n1_; clear n0_ n1_; (try clear hb); (try clear hb2); (try clear hk); (try clear hi); have hcz51_0 : w50.cell? ⟨gb247, 0, none⟩ = some (.slice A0_0 l0_0.length c0_0) := (blk_cell BK247.out 0).trans rfl; have hfz51_0 := blk_frozen BK247.out 0) | ((with_reducible refine gate_callee (f := 22) rfl ?_); refine goesL_ (some 111) rfl rfl Try.func22 (by kernel_rfl) rfl #[.agg #[.slice A0_0 l0_0.length c0_0], .int .i64 (wrap64 (a1 + a2))] rfl (by (try simp only [List.map_toArray, List.map_cons, List.map_nil]); first | done | rfl | (simp only [List.length_drop, List.length_take]; rfl)) ?_; (with_reducible refine (tariff_Rate.calls kj27 _ _ l0_0 (wrap64 (a1 + a2)) t259 t260 _ ?side1 ?side2 A43.out).mono ?_); (case side1 => repeat (first | exact (Kd.C_below HR0_0.out HB.out) | (with_reducible refine Kd.C_alloc ?_ _) | (with_reducible refine Kd.C_drewN ?_ _) | (with_reducible refine Kd.C_drew ?_))); (case side2 => exact HC0_0.out); rintro e w52 ⟨rfl, hb⟩; refine ⟨_, rfl, ?_⟩; have n0_ := Aside0.mk (blk_below (g := gb247) (o := .cells #[.slice A0_0 l0_0.length c0_0] 24 (0, 0)) (by (with_reducible repeat (first | refine blk_drewN ?_ _ | refine blk_drew ?_ | refine blk_alloc ?_ _)); exact BK247.out) hb); have n1_ := Aside0.mk (below_step (by repeat (first | (with_reducible first | exact HB.out | apply below_alloc | apply pw_below_drewN | apply below_drew1 | refine below_set ?_ GE247.out) | exact HB.out)) hb); clear BK247; clear HB; have BK247 := n0_; have HB := n1_; clear n0_ n1_; (try clear hb); (try clear hb2); (try clear hk); (try clear hi)))
                 go_ret
                 exact ⟨by first | rfl | (simp [errW_none, errW_some] <;> rfl) | (simp [*, errW_none, errW_some] <;> rfl), by repeat (first | (with_reducible first | exact HB.out | apply below_alloc | apply pw_below_drewN | apply below_drew1 | refine below_set ?_ GE247.out) | exact HB.out)⟩
                ·rw [if_neg c46] at H
                 have c46b0 : decide (t250 ≤ (wrap64 (a1 + a2))) = false := decide_eq_false c46
                 clear c46
                 obtain rfl := Option.some.inj H
                 have hcz53_0 : wc.cell? ⟨gb247, 0, none⟩ = some (.slice A0_0 l0_0.length c0_0) := (blk_cell BK247.out 0).trans rfl
                 have hfz53_0 := blk_frozen BK247.out 0
                 go_wp2_with (first | ((with_reducible refine gate_callee (f := 22) rfl ?_); refine goesL_ (some 76) rfl rfl Try.func22 (by kernel_rfl) rfl #[.agg #[.slice A0_0 l0_0.length c0_0], .int .i64 t250] rfl (by (try simp only [List.map_toArray, List.map_cons, List.map_nil]); first | done | rfl | (simp only [List.length_drop, List.length_take]; rfl)) ?_; (with_reducible refine (tariff_Rate.calls kj27 _ _ l0_0 t250 t255 t256 _ ?side1 ?side2 A37.out).mono ?_); (case side1 => repeat (first | exact (Kd.C_below HR0_0.out HB.out) | (with_reducible refine Kd.C_alloc ?_ _) | (with_reducible refine Kd.C_drewN ?_ _) | (with_reducible refine Kd.C_drew ?_))); (case side2 => exact HC0_0.out); rintro e w54 ⟨rfl, hb⟩; refine ⟨_, rfl, ?_⟩; have n0_ := Aside0.mk (blk_below (g := gb247) (o := .cells #[.slice A0_0 l0_0.length c0_0] 24 (0, 0)) (by (with_reducible repeat (first | refine blk_drewN ?_ _ | refine blk_drew ?_ | refine blk_alloc ?_ _)); exact BK247.out) hb); have n1_ := Aside0.mk (below_step (by repeat (first | (with_reducible first | exact HB.out | apply below_alloc | apply pw_below_drewN | apply below_drew1 | refine below_set ?_ GE247.out) | exact HB.out)) hb); clear BK247; clear HB; have BK247 := n0_; have HB := n1_; clear n0_ n1_; (try clear hb); (try clear hb2); (try clear hk); (try clear hi); have hcz55_0 : w54.cell? ⟨gb247, 0, none⟩ = some (.slice A0_0 l0_0.length c0_0) := (blk_cell BK247.out 0).trans rfl; have hfz55_0 := blk_frozen BK247.out 0) | ((with_reducible refine gate_callee (f := 28) rfl ?_); refine goesL_ (some 83) rfl rfl Try.func28 (by kernel_rfl) rfl #[.agg #[.slice A0_0 l0_0.length c0_0], .int .i64 a1, .int .i64 t250] rfl (by (try simp only [List.map_toArray, List.map_cons, List.map_nil]); first | done | rfl | (simp only [List.length_drop, List.length_take]; rfl)) ?_; (with_reducible refine (tariff_Price.calls kj27 _ _ l0_0 a1 t250 t257 t258 _ ?side1 ?side2 A38.out).mono ?_); (case side1 => repeat (first | exact (Kd.C_below HR0_0.out HB.out) | (with_reducible refine Kd.C_alloc ?_ _) | (with_reducible refine Kd.C_drewN ?_ _) | (with_reducible refine Kd.C_drew ?_))); (case side2 => exact HC0_0.out); rintro e w56 ⟨rfl, hb⟩; refine ⟨_, rfl, ?_⟩; have n0_ := Aside0.mk (blk_below (g := gb247) (o := .cells #[.slice A0_0 l0_0.length c0_0] 24 (0, 0)) (by (with_reducible repeat (first | refine blk_drewN ?_ _ | refine blk_drew ?_ | refine blk_alloc ?_ _)); exact BK247.out) hb); have n1_ := Aside0.mk (below_step (by repeat (first | (with_reducible first | exact HB.out | apply below_alloc | apply pw_below_drewN | apply below_drew1 | refine below_set ?_ GE247.out) | exact HB.out)) hb); clear BK247; clear HB; have BK247 := n0_; have HB := n1_; clear n0_ n1_; (try clear hb); (try clear hb2); (try clear hk); (try clear hi); have hcz57_0 : w56.cell? ⟨gb247, 0, none⟩ = some (.slice A0_0 l0_0.length c0_0) := (blk_cell BK247.out 0).trans rfl; have hfz57_0 := blk_frozen BK247.out 0) | ((with_reducible refine gate_callee (f := 22) rfl ?_); refine goesL_ (some 111) rfl rfl Try.func22 (by kernel_rfl) rfl #[.agg #[.slice A0_0 l0_0.length c0_0], .int .i64 (wrap64 (a1 + a2))] rfl (by (try simp only [List.map_toArray, List.map_cons, List.map_nil]); first | done | rfl | (simp only [List.length_drop, List.length_take]; rfl)) ?_; (with_reducible refine (tariff_Rate.calls kj27 _ _ l0_0 (wrap64 (a1 + a2)) t259 t260 _ ?side1 ?side2 A43.out).mono ?_); (case side1 => repeat (first | exact (Kd.C_below HR0_0.out HB.out) | (with_reducible refine Kd.C_alloc ?_ _) | (with_reducible refine Kd.C_drewN ?_ _) | (with_reducible refine Kd.C_drew ?_))); (case side2 => exact HC0_0.out); rintro e w58 ⟨rfl, hb⟩; refine ⟨_, rfl, ?_⟩; have n0_ := Aside0.mk (blk_below (g := gb247) (o := .cells #[.slice A0_0 l0_0.length c0_0] 24 (0, 0)) (by (with_reducible repeat (first | refine blk_drewN ?_ _ | refine blk_drew ?_ | refine blk_alloc ?_ _)); exact BK247.out) hb); have n1_ := Aside0.mk (below_step (by repeat (first | (with_reducible first | exact HB.out | apply below_alloc | apply pw_below_drewN | apply below_drew1 | refine below_set ?_ GE247.out) | exact HB.out)) hb); clear BK247; clear HB; have BK247 := n0_; have HB := n1_; clear n0_ n1_; (try clear hb); (try clear hb2); (try clear hk); (try clear hi)))
                 go_ret
                 exact ⟨by first | rfl | (simp [errW_none, errW_some] <;> rfl) | (simp [*, errW_none, errW_some] <;> rfl), by repeat (first | (with_reducible first | exact HB.out | apply below_alloc | apply pw_below_drewN | apply below_drew1 | refine below_set ?_ GE247.out) | exact HB.out)⟩
               ·rw [if_neg c45] at H
                have c45b0 : (t260 == 0) = false := beq_eq_false_iff_ne.mpr c45
                have c45b1 : (t260 != 0) = true := bne_iff_ne.mpr c45
                exact absurd ((Option.some.inj H).trans HT_TRUE.out) (by simp)
              ·rw [if_neg c44] at H
               have c44b0 : (t254 == 0) = false := beq_eq_false_iff_ne.mpr c44
               have c44b1 : (t254 != 0) = true := bne_iff_ne.mpr c44
               exact absurd ((Option.some.inj H).trans HT_TRUE.out) (by simp)
             ·rw [if_neg c42] at H
              have c42b0 : (t257 == (wrap64 ((wrap64 (t250 - a1)) * t253))) = false := beq_eq_false_iff_ne.mpr c42
              have c42b1 : (t257 != (wrap64 ((wrap64 (t250 - a1)) * t253))) = true := bne_iff_ne.mpr c42
              exact absurd ((Option.some.inj H).trans HT_TRUE.out) (by simp)
           ·rw [if_neg c40] at H
            have c40b0 : (t258 == 0) = false := beq_eq_false_iff_ne.mpr c40
            have c40b1 : (t258 != 0) = true := bne_iff_ne.mpr c40
            exact absurd ((Option.some.inj H).trans HT_TRUE.out) (by simp)
          ·rw [if_neg c39] at H
           have c39b0 : (t256 == 0) = false := beq_eq_false_iff_ne.mpr c39
           have c39b1 : (t256 != 0) = true := bne_iff_ne.mpr c39
           exact absurd ((Option.some.inj H).trans HT_TRUE.out) (by simp)
         ·replace c36 := Bool.eq_false_iff.mpr c36
          subst c36
          have H1 : ((tariff_Rate.f kj27 l0_0 (wrap64 (a1 + a2))).bind fun bt261 => (if t254 = 0 then (if bt261.2 = 0 then (some (bt261.1 == t253)) else (some false)) else (some false))) = some r := by rw [if_neg (show ¬ (false = true) by decide)] at H; exact H
          clear H
          have H := H1
          clear H1
          replace H := Option.bind_eq_some_iff.mp H
          obtain ⟨⟨t261, t262⟩, A590, H⟩ := H
          replace H : (if t254 = 0 then (if t262 = 0 then (some (t261 == t253)) else (some false)) else (some false)) = some r := H
          have A59 := Aside0.mk A590
          clear A590
          by_cases c60 : t254 = 0
          ·rw [if_pos c60] at H
           have c60b0 : (t254 == 0) = true := beq_iff_eq.mpr c60
           have c60b1 : (t254 != 0) = false := bne_eq_false_iff_eq.mpr c60
           clear c60
           by_cases c61 : t262 = 0
           ·rw [if_pos c61] at H
            have c61b0 : (t262 == 0) = true := beq_iff_eq.mpr c61
            have c61b1 : (t262 != 0) = false := bne_eq_false_iff_eq.mpr c61
            clear c61
            obtain rfl := Option.some.inj H
            have hcz62_0 : wc.cell? ⟨gb247, 0, none⟩ = some (.slice A0_0 l0_0.length c0_0) := (blk_cell BK247.out 0).trans rfl
            have hfz62_0 := blk_frozen BK247.out 0
            go_wp2_with (first | ((with_reducible refine gate_callee (f := 22) rfl ?_); refine goesL_ (some 111) rfl rfl Try.func22 (by kernel_rfl) rfl #[.agg #[.slice A0_0 l0_0.length c0_0], .int .i64 (wrap64 (a1 + a2))] rfl (by (try simp only [List.map_toArray, List.map_cons, List.map_nil]); first | done | rfl | (simp only [List.length_drop, List.length_take]; rfl)) ?_; (with_reducible refine (tariff_Rate.calls kj27 _ _ l0_0 (wrap64 (a1 + a2)) t261 t262 _ ?side1 ?side2 A59.out).mono ?_); (case side1 => repeat (first | exact (Kd.C_below HR0_0.out HB.out) | (with_reducible refine Kd.C_alloc ?_ _) | (with_reducible refine Kd.C_drewN ?_ _) | (with_reducible refine Kd.C_drew ?_))); (case side2 => exact HC0_0.out); rintro e w63 ⟨rfl, hb⟩; refine ⟨_, rfl, ?_⟩; have n0_ := Aside0.mk (blk_below (g := gb247) (o := .cells #[.slice A0_0 l0_0.length c0_0] 24 (0, 0)) (by (with_reducible repeat (first | refine blk_drewN ?_ _ | refine blk_drew ?_ | refine blk_alloc ?_ _)); exact BK247.out) hb); have n1_ := Aside0.mk (below_step (by repeat (first | (with_reducible first | exact HB.out | apply below_alloc | apply pw_below_drewN | apply below_drew1 | refine below_set ?_ GE247.out) | exact HB.out)) hb); clear BK247; clear HB; have BK247 := n0_; have HB := n1_; clear n0_ n1_; (try clear hb); (try clear hb2); (try clear hk); (try clear hi)))
            go_ret
            exact ⟨by first | rfl | (simp [errW_none, errW_some] <;> rfl) | (simp [*, errW_none, errW_some] <;> rfl), by repeat (first | (with_reducible first | exact HB.out | apply below_alloc | apply pw_below_drewN | apply below_drew1 | refine below_set ?_ GE247.out) | exact HB.out)⟩
           ·rw [if_neg c61] at H
            have c61b0 : (t262 == 0) = false := beq_eq_false_iff_ne.mpr c61
            have c61b1 : (t262 != 0) = true := bne_iff_ne.mpr c61
            exact absurd ((Option.some.inj H).trans HT_TRUE.out) (by simp)
          ·rw [if_neg c60] at H
           have c60b0 : (t254 == 0) = false := beq_eq_false_iff_ne.mpr c60
           have c60b1 : (t254 != 0) = true := bne_iff_ne.mpr c60
           exact absurd ((Option.some.inj H).trans HT_TRUE.out) (by simp)
     ·rw [if_neg c26] at H
      have c26b0 : (t252 == 0) = false := beq_eq_false_iff_ne.mpr c26
      have c26b1 : (t252 != 0) = true := bne_iff_ne.mpr c26
      by_cases c64 : t250 = 0
      ·rw [if_pos c64] at H
       have c64b0 : (t250 == 0) = true := beq_iff_eq.mpr c64
       have c64b1 : (t250 != 0) = false := bne_eq_false_iff_eq.mpr c64
       clear c64
       obtain rfl := Option.some.inj H
       have hcz65_0 : wc.cell? ⟨gb247, 0, none⟩ = some (.slice A0_0 l0_0.length c0_0) := (blk_cell BK247.out 0).trans rfl
       have hfz65_0 := blk_frozen BK247.out 0
       go_wp2_with (first | ((with_reducible refine gate_callee (f := 24) rfl ?_); refine goesL_ (some 42) rfl rfl Try.func24 (by kernel_rfl) rfl #[.agg #[.slice A0_0 l0_0.length c0_0], .int .i64 a1] rfl (by (try simp only [List.map_toArray, List.map_cons, List.map_nil]); first | done | rfl | (simp only [List.length_drop, List.length_take]; rfl)) ?_; (with_reducible refine (tariff_Change.calls kj5 _ _ l0_0 a1 t250 t251 t252 _ ?side1 ?side2 A25.out).mono ?_); (case side1 => repeat (first | exact (Kd.C_below HR0_0.out HB.out) | (with_reducible refine Kd.C_alloc ?_ _) | (with_reducible refine Kd.C_drewN ?_ _) | (with_reducible refine Kd.C_drew ?_))); (case side2 => exact HC0_0.out); rintro e w66 ⟨rfl, hb⟩; refine ⟨_, rfl, ?_⟩; have n0_ := Aside0.mk (blk_below (g := gb247) (o := .cells #[.slice A0_0 l0_0.length c0_0] 24 (0, 0)) (by (with_reducible repeat (first | refine blk_drewN ?_ _ | refine blk_drew ?_ | refine blk_alloc ?_ _)); exact BK247.out) hb); have n1_ := Aside0.mk (below_step (by repeat (first | (with_reducible first | exact HB.out | apply below_alloc | apply pw_below_drewN | apply below_drew1 | refine below_set ?_ GE247.out) | exact HB.out)) hb); clear BK247; clear HB; have BK247 := n0_; have HB := n1_; clear n0_ n1_; (try clear hb); (try clear hb2); (try clear hk); (try clear hi)))
       go_ret
       exact ⟨by first | rfl | (simp [errW_none, errW_some] <;> rfl) | (simp [*, errW_none, errW_some] <;> rfl), by repeat (first | (with_reducible first | exact HB.out | apply below_alloc | apply pw_below_drewN | apply below_drew1 | refine below_set ?_ GE247.out) | exact HB.out)⟩
      ·rw [if_neg c64] at H
       have c64b0 : (t250 == 0) = false := beq_eq_false_iff_ne.mpr c64
       have c64b1 : (t250 != 0) = true := bne_iff_ne.mpr c64
       exact absurd ((Option.some.inj H).trans HT_TRUE.out) (by simp)
 ·replace c5 := Bool.eq_false_iff.mpr c5
  subst c5
  have H1 : (some false) = some r := by rw [if_neg (show ¬ (false = true) by decide)] at H; exact H
  clear H
  have H := H1
  clear H1
  exact absurd ((Option.some.inj H).trans HT_TRUE.out) (by simp)

end Go.Proofs.Ytldpacphackdjaa.Print
