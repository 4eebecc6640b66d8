/- That the call of function 5 (crossbarlaw26_TariffPriceAdditive) answers what the Lean function of the same name answers, at every input at which that one answers. (Written by a program of the session, which drives the kit's printer.) -/
import Derived.Test.YtldpacphackdjaaK0
import Derived.Test.YtldpacphackdjaaF22
import Derived.Test.YtldpacphackdjaaF28
import Derived.Test.YtldpacphackdjaaF20
import Derived.Test.YtldpacphackdjaaF21
namespace Go.Proofs.Ytldpacphackdjaa.Print
open Go.RowKit Go.Proofs.YtldpacphackdjaaW.PrintWords Go.Proofs.YtldpacphackdjaaW.PrintLast Go.Proofs.YtldpacphackdjaaW.PrintMore
attribute [local go_sem] max2_int min2_int max_two min_two max_three min_three max_four min_four   -- for this text's walks alone
set_option linter.unusedVariables false
set_option linter.unusedSimpArgs false

/-! ### crossbarlaw26_TariffPriceAdditive: function 5 -/
mutual
def crossbarlaw26_TariffPriceAdditive.j0 : Nat → Int → Int → Int → Bool → List (S42) → Option (Bool)
 | 0, _, _, _, _, _ => none
 | k + 1, x1, x2, x3, x35, x215000 => if x35 = true then (some true) else ((tariff_Price.f k x215000 x1 x3).bind fun bt217 => (if bt217.2 = 0 then ((tariff_Price.f k x215000 x1 x2).bind fun bt219 => ((tariff_Price.f k x215000 x2 x3).bind fun bt221 => ((tariff_Price.f k x215000 x2 x2).bind fun bt223 => (if bt219.2 = 0 then (if bt221.2 = 0 then (if bt223.2 = 0 then (if bt217.1 = (wrap64 (bt219.1 + bt221.1)) then (crossbarlaw26_TariffPriceAdditive.j1 k x1 x3 bt217.1 (bt223.1 != 0) x215000) else (crossbarlaw26_TariffPriceAdditive.j1 k x1 x3 bt217.1 true x215000)) else (crossbarlaw26_TariffPriceAdditive.j1 k x1 x3 bt217.1 true x215000)) else (crossbarlaw26_TariffPriceAdditive.j1 k x1 x3 bt217.1 true x215000)) else (crossbarlaw26_TariffPriceAdditive.j1 k x1 x3 bt217.1 true x215000))))) else (some (bt217.1 == 0))))
def crossbarlaw26_TariffPriceAdditive.j1 : Nat → Int → Int → Int → Bool → List (S42) → Option (Bool)
 | 0, _, _, _, _, _ => none
 | k + 1, x1, x3, x9, x88, x215000 => if x88 = true then (some false) else (if x1 = x3 then (some (x9 == 0)) else ((tariff_Price.f k x215000 x1 (wrap64 (x1 + 1))).bind fun bt225 => ((tariff_Rate.f k x215000 x1).bind fun bt227 => (if bt225.2 = 0 then (if bt227.2 = 0 then (some (bt225.1 == bt227.1)) else (some false)) else (some false)))))
end
def crossbarlaw26_TariffPriceAdditive.f (k : Nat) (l0_0 : List (S42)) (a1 : Int) (a2 : Int) (a3 : Int) : Option (Bool) := (crossbarlaw26_sane.f k).bind fun t215 => (if t215 = true then ((crossbarref26_Few.f l0_0).bind fun t216 => (if t216 = true then (if a1 > a2 then (crossbarlaw26_TariffPriceAdditive.j0 k a1 a2 a3 true l0_0) else (crossbarlaw26_TariffPriceAdditive.j0 k a1 a2 a3 (decide (a2 > a3)) l0_0)) else (crossbarlaw26_TariffPriceAdditive.j0 k a1 a2 a3 true l0_0))) else (some false))
theorem crossbarlaw26_TariffPriceAdditive.mono_l : ∀ k, (∀ y0 y1 y2 y3 y4, LeO (crossbarlaw26_TariffPriceAdditive.j0 k y0 y1 y2 y3 y4) (crossbarlaw26_TariffPriceAdditive.j0 (k + 1) y0 y1 y2 y3 y4)) ∧ (∀ y0 y1 y2 y3 y4, LeO (crossbarlaw26_TariffPriceAdditive.j1 k y0 y1 y2 y3 y4) (crossbarlaw26_TariffPriceAdditive.j1 (k + 1) y0 y1 y2 y3 y4))
 | 0 => ⟨fun _ _ _ _ _ r h => by simp [crossbarlaw26_TariffPriceAdditive.j0] at h, fun _ _ _ _ _ r h => by simp [crossbarlaw26_TariffPriceAdditive.j1] at h⟩
 | k + 1 => by
  obtain ⟨ih0, ih1⟩ := crossbarlaw26_TariffPriceAdditive.mono_l k
  refine ⟨?_, ?_⟩
  ·intro y0 y1 y2 y3 y4
   unfold crossbarlaw26_TariffPriceAdditive.j0
   repeat' first
   | (with_reducible exact ih0 _ _ _ _ _)
   | (with_reducible exact ih1 _ _ _ _ _)
   | (with_reducible exact crossbarlaw26_sane.mono _)
   | (with_reducible exact tariff_Price.mono _ _ _ _)
   | (with_reducible exact tariff_Rate.mono _ _ _)
   | (with_reducible exact LeO.refl _)
   | (with_reducible exact LeO.none _)
   | (with_reducible refine LeO.ite ?_ ?_)
   | (with_reducible refine LeO.bind ?_ (fun _ => ?_))
   | exact ih0 _ _ _ _ _
   | exact ih1 _ _ _ _ _
   | exact crossbarlaw26_sane.mono _
   | exact tariff_Price.mono _ _ _ _
   | exact tariff_Rate.mono _ _ _
   | exact LeO.none _
   | refine LeO.ite ?_ ?_
   | refine LeO.bind ?_ (fun _ => ?_)
  ·intro y0 y1 y2 y3 y4
   unfold crossbarlaw26_TariffPriceAdditive.j1
   repeat' first
   | (with_reducible exact ih0 _ _ _ _ _)
   | (with_reducible exact ih1 _ _ _ _ _)
   | (with_reducible exact crossbarlaw26_sane.mono _)
   | (with_reducible exact tariff_Price.mono _ _ _ _)
   | (with_reducible exact tariff_Rate.mono _ _ _)
   | (with_reducible exact LeO.refl _)
   | (with_reducible exact LeO.none _)
   | (with_reducible refine LeO.ite ?_ ?_)
   | (with_reducible refine LeO.bind ?_ (fun _ => ?_))
   | exact ih0 _ _ _ _ _
   | exact ih1 _ _ _ _ _
   | exact crossbarlaw26_sane.mono _
   | exact tariff_Price.mono _ _ _ _
   | exact tariff_Rate.mono _ _ _
   | exact LeO.none _
   | refine LeO.ite ?_ ?_
   | refine LeO.bind ?_ (fun _ => ?_)
theorem crossbarlaw26_TariffPriceAdditive.mono : ∀ a0 a1 a2 a3 k, LeO (crossbarlaw26_TariffPriceAdditive.f k a0 a1 a2 a3) (crossbarlaw26_TariffPriceAdditive.f (k + 1) a0 a1 a2 a3) := by
 intro a0 a1 a2 a3 k
 obtain ⟨ih0, ih1⟩ := crossbarlaw26_TariffPriceAdditive.mono_l k
 unfold crossbarlaw26_TariffPriceAdditive.f
 repeat' first
   | (with_reducible exact ih0 _ _ _ _ _)
   | (with_reducible exact ih1 _ _ _ _ _)
   | (with_reducible exact crossbarlaw26_sane.mono _)
   | (with_reducible exact tariff_Price.mono _ _ _ _)
   | (with_reducible exact tariff_Rate.mono _ _ _)
   | (with_reducible exact LeO.refl _)
   | (with_reducible exact LeO.none _)
   | (with_reducible refine LeO.ite ?_ ?_)
   | (with_reducible refine LeO.bind ?_ (fun _ => ?_))
   | exact ih0 _ _ _ _ _
   | exact ih1 _ _ _ _ _
   | exact crossbarlaw26_sane.mono _
   | exact tariff_Price.mono _ _ _ _
   | exact tariff_Rate.mono _ _ _
   | exact LeO.none _
   | refine LeO.ite ?_ ?_
   | refine LeO.bind ?_ (fun _ => ?_)
set_option maxHeartbeats 8000000 in
set_option maxRecDepth 100000 in
theorem crossbarlaw26_TariffPriceAdditive.calls (k : Nat) (A0_0 : Option Addr) (c0_0 : Nat) (l0_0 : List (S42)) (a1 : Int) (a2 : Int) (a3 : Int) (r : Bool) (w : World) (hr0_0 : Kd.C k42 w A0_0 l0_0.length l0_0) (hc0_0 : l0_0.length ≤ c0_0) (h : crossbarlaw26_TariffPriceAdditive.f k l0_0 a1 a2 a3 = some r) (hT : r = true := by rfl) :
  Calls Try.prog 5 #[.agg #[.slice A0_0 l0_0.length c0_0], .int .i64 a1, .int .i64 a2, .int .i64 a3] w fun e w' => e = .returned (.bool r) ∧ Below w.heap.size w w' := by
 have HT_TRUE := Aside0.mk hT
 clear hT
 have hu24 := Try.underlying24
 have HR0_0 := Aside0.mk hr0_0
 have HC0_0 := Aside0.mk hc0_0
 clear hr0_0 hc0_0
 have HB := Aside0.mk (Below.refl w.heap.size w)
 have H : ((crossbarlaw26_sane.f k).bind fun t215 => (if t215 = true then ((crossbarref26_Few.f l0_0).bind fun t216 => (if t216 = true then (if a1 > a2 then (crossbarlaw26_TariffPriceAdditive.j0 k a1 a2 a3 true l0_0) else (crossbarlaw26_TariffPriceAdditive.j0 k a1 a2 a3 (decide (a2 > a3)) l0_0)) else (crossbarlaw26_TariffPriceAdditive.j0 k a1 a2 a3 true l0_0))) else (some false))) = some r := h
 clear h
 replace H := Option.bind_eq_some_iff.mp H
 obtain ⟨t215, A50, H⟩ := H
 replace H : (if t215 = true then ((crossbarref26_Few.f l0_0).bind fun t216 => (if t216 = true then (if a1 > a2 then (crossbarlaw26_TariffPriceAdditive.j0 k a1 a2 a3 true l0_0) else (crossbarlaw26_TariffPriceAdditive.j0 k a1 a2 a3 (decide (a2 > a3)) l0_0)) else (crossbarlaw26_TariffPriceAdditive.j0 k a1 a2 a3 true l0_0))) else (some false)) = some r := H
 have A5 := Aside0.mk A50
 clear A50
 by_cases c6 : t215 = true
 ·subst c6
  have H1 : ((crossbarref26_Few.f l0_0).bind fun t216 => (if t216 = true then (if a1 > a2 then (crossbarlaw26_TariffPriceAdditive.j0 k a1 a2 a3 true l0_0) else (crossbarlaw26_TariffPriceAdditive.j0 k a1 a2 a3 (decide (a2 > a3)) l0_0)) else (crossbarlaw26_TariffPriceAdditive.j0 k a1 a2 a3 true l0_0))) = some r := by rw [if_pos rfl] at H; exact H
  clear H
  have H := H1
  clear H1
  have HC7 := Aside0.mk H
  clear H
  go_enter Try.func5, Try.ntmps5
  go_upto_region 3 with (first | ((with_reducible refine gate_dst (N := 4) rfl ?_); refine box_event ?hg (N := 4) ?hd (cs := #[.slice A0_0 l0_0.length c0_0]) (t := 24) ?hr ?_; (case hd => rfl); (case hg => rfl); (case hr => first | (go_simp; done) | (go_simp; rfl)); intro gb214 hg w8 hbox hb; have n0_ := Aside0.mk (below_step (by repeat (first | (with_reducible first | exact HB.out | apply below_alloc | apply pw_below_drewN | apply below_drew1) | exact HB.out)) hb); have n1_ := Aside0.mk (hbox); have n2_ := Aside0.mk ((by rw [hg]; exact (below_size (by repeat (first | (with_reducible first | exact HB.out | apply below_alloc | apply pw_below_drewN | apply below_drew1) | exact HB.out))) : w.heap.size ≤ gb214)); have n3_ := Aside0.mk ((by rw [hg]; exact (below_size (by repeat (first | (with_reducible first | exact HB.out | apply below_alloc | apply pw_below_drewN | apply below_drew1) | exact HB.out))) : w.heap.size ≤ gb214)); clear HB; have HB := n0_; have BK214 := n1_; have GW214 := n2_; have GE214 := n3_; clear n0_ n1_ n2_ n3_; clear hb hbox hg) | ((with_reducible refine gate_callee (f := 20) rfl ?_); refine goesL_ (some 21) rfl rfl Try.func20 (by kernel_rfl) rfl #[] rfl (by (try simp only [List.map_toArray, List.map_cons, List.map_nil]); first | done | rfl | (simp only [List.length_drop, List.length_take]; rfl)) ?_; (with_reducible refine (crossbarlaw26_sane.calls k  true _ A5.out).mono ?_); rintro e w9 ⟨rfl, hb⟩; refine ⟨_, rfl, ?_⟩; have n0_ := Aside0.mk (blk_below (g := gb214) (o := .cells #[.slice A0_0 l0_0.length c0_0] 24 (0, 0)) (by (with_reducible repeat (first | refine blk_drewN ?_ _ | refine blk_drew ?_ | refine blk_alloc ?_ _)); exact BK214.out) hb); have n1_ := Aside0.mk (below_step (by repeat (first | (with_reducible first | exact HB.out | apply below_alloc | apply pw_below_drewN | apply below_drew1 | refine below_set ?_ GE214.out) | exact HB.out)) hb); clear BK214; clear HB; have BK214 := n0_; have HB := n1_; clear n0_ n1_; (try clear hb); (try clear hb2); (try clear hk); (try clear hi)))
  (try simp only [Act.put, List.setIfInBounds_toArray, List.set_cons_zero, List.set_cons_succ])
  go_cut [35] (fun v35 wc => ∃ (kq : Nat) (x35_6 : Bool), v35 = .bool x35_6 ∧ Aside0 (crossbarlaw26_TariffPriceAdditive.j0 kq a1 a2 a3 x35_6 l0_0 = some r) ∧ Aside0 (kq ≤ k) ∧ Aside0 (wc.heap[gb214]? = some (.cells #[(.slice A0_0 l0_0.length c0_0)] 24 (0, 0))) ∧ Aside0 (Below w.heap.size w wc))
  case first =>
   have H := HC7.out
   clear HC7
   replace H := Option.bind_eq_some_iff.mp H
   obtain ⟨t216, A100, H⟩ := H
   replace H : (if t216 = true then (if a1 > a2 then (crossbarlaw26_TariffPriceAdditive.j0 k a1 a2 a3 true l0_0) else (crossbarlaw26_TariffPriceAdditive.j0 k a1 a2 a3 (decide (a2 > a3)) l0_0)) else (crossbarlaw26_TariffPriceAdditive.j0 k a1 a2 a3 true l0_0)) = some r := H
   have A10 := Aside0.mk A100
   clear A100
   by_cases c11 : t216 = true
   ·subst c11
    have H1 : (if a1 > a2 then (crossbarlaw26_TariffPriceAdditive.j0 k a1 a2 a3 true l0_0) else (crossbarlaw26_TariffPriceAdditive.j0 k a1 a2 a3 (decide (a2 > a3)) l0_0)) = some r := by rw [if_pos rfl] at H; exact H
    clear H
    have H := H1
    clear H1
    by_cases c12 : a1 > a2
    ·rw [if_pos c12] at H
     have c12b0 : decide (a2 < a1) = true := decide_eq_true c12
     clear c12
     (first | rw [c12b0] | (simp only [i64_w, i32_w]; rw [c12b0]) | skip)
     have H' := Aside0.mk H
     clear H
     have hcz13_0 : w9.cell? ⟨gb214, 0, none⟩ = some (.slice A0_0 l0_0.length c0_0) := (blk_cell BK214.out 0).trans rfl
     have hfz13_0 := blk_frozen BK214.out 0
     go_wp2_with (first | ((with_reducible refine gate_callee (f := 21) rfl ?_); refine goesL_ (some 24) rfl rfl Try.func21 (by kernel_rfl) rfl #[.agg #[.slice A0_0 l0_0.length c0_0]] rfl (by (try simp only [List.map_toArray, List.map_cons, List.map_nil]); first | done | rfl | (simp only [List.length_drop, List.length_take]; rfl)) ?_; (with_reducible refine (crossbarref26_Few.calls _ _ l0_0 true _ ?side1 ?side2 A10.out).mono ?_); (case side1 => repeat (first | exact (Kd.C_below HR0_0.out HB.out) | (with_reducible refine Kd.C_alloc ?_ _) | (with_reducible refine Kd.C_drewN ?_ _) | (with_reducible refine Kd.C_drew ?_))); (case side2 => exact HC0_0.out); rintro e w14 ⟨rfl, hb⟩; refine ⟨_, rfl, ?_⟩; have n0_ := Aside0.mk (blk_below (g := gb214) (o := .cells #[.slice A0_0 l0_0.length c0_0] 24 (0, 0)) (by (with_reducible repeat (first | refine blk_drewN ?_ _ | refine blk_drew ?_ | refine blk_alloc ?_ _)); exact BK214.out) hb); have n1_ := Aside0.mk (below_step (by repeat (first | (with_reducible first | exact HB.out | apply below_alloc | apply pw_below_drewN | apply below_drew1 | refine below_set ?_ GE214.out) | exact HB.out)) hb); clear BK214; clear HB; have BK214 := n0_; have HB := n1_; clear n0_ n1_; (try clear hb); (try clear hb2); (try clear hk); (try clear hi)))
     go_meet
     case rel => exact ⟨_, (true), (by first | rfl | (simp; done) | (simp [*]; done)), H', ⟨by first | omega | exact Nat.le_refl _⟩, ⟨by (with_reducible repeat (first | refine blk_drewN ?_ _ | refine blk_drew ?_ | refine blk_alloc ?_ _)); exact BK214.out⟩, ⟨by repeat (first | (with_reducible first | exact HB.out | apply below_alloc | apply pw_below_drewN | apply below_drew1 | refine below_set ?_ GE214.out) | exact HB.out)⟩⟩
    ·rw [if_neg c12] at H
     have c12b0 : decide (a2 < a1) = false := decide_eq_false c12
     clear c12
     (first | rw [c12b0] | (simp only [i64_w, i32_w]; rw [c12b0]) | skip)
     have H' := Aside0.mk H
     clear H
     have hcz15_0 : w9.cell? ⟨gb214, 0, none⟩ = some (.slice A0_0 l0_0.length c0_0) := (blk_cell BK214.out 0).trans rfl
     have hfz15_0 := blk_frozen BK214.out 0
     go_wp2_with (first | ((with_reducible refine gate_callee (f := 21) rfl ?_); refine goesL_ (some 24) rfl rfl Try.func21 (by kernel_rfl) rfl #[.agg #[.slice A0_0 l0_0.length c0_0]] rfl (by (try simp only [List.map_toArray, List.map_cons, List.map_nil]); first | done | rfl | (simp only [List.length_drop, List.length_take]; rfl)) ?_; (with_reducible refine (crossbarref26_Few.calls _ _ l0_0 true _ ?side1 ?side2 A10.out).mono ?_); (case side1 => repeat (first | exact (Kd.C_below HR0_0.out HB.out) | (with_reducible refine Kd.C_alloc ?_ _) | (with_reducible refine Kd.C_drewN ?_ _) | (with_reducible refine Kd.C_drew ?_))); (case side2 => exact HC0_0.out); rintro e w16 ⟨rfl, hb⟩; refine ⟨_, rfl, ?_⟩; have n0_ := Aside0.mk (blk_below (g := gb214) (o := .cells #[.slice A0_0 l0_0.length c0_0] 24 (0, 0)) (by (with_reducible repeat (first | refine blk_drewN ?_ _ | refine blk_drew ?_ | refine blk_alloc ?_ _)); exact BK214.out) hb); have n1_ := Aside0.mk (below_step (by repeat (first | (with_reducible first | exact HB.out | apply below_alloc | apply pw_below_drewN | apply below_drew1 | refine below_set ?_ GE214.out) | exact HB.out)) hb); clear BK214; clear HB; have BK214 := n0_; have HB := n1_; clear n0_ n1_; (try clear hb); (try clear hb2); (try clear hk); (try clear hi)))
     go_meet
     case rel => exact ⟨_, (decide (a2 > a3)), (by first | rfl | (simp; done) | (simp [*]; done)), H', ⟨by first | omega | exact Nat.le_refl _⟩, ⟨by (with_reducible repeat (first | refine blk_drewN ?_ _ | refine blk_drew ?_ | refine blk_alloc ?_ _)); exact BK214.out⟩, ⟨by repeat (first | (with_reducible first | exact HB.out | apply below_alloc | apply pw_below_drewN | apply below_drew1 | refine below_set ?_ GE214.out) | exact HB.out)⟩⟩
   ·replace c11 := Bool.eq_false_iff.mpr c11
    subst c11
    have H1 : (crossbarlaw26_TariffPriceAdditive.j0 k a1 a2 a3 true l0_0) = some r := by rw [if_neg (show ¬ (false = true) by decide)] at H; exact H
    clear H
    have H := H1
    clear H1
    have H' := Aside0.mk H
    clear H
    have hcz17_0 : w9.cell? ⟨gb214, 0, none⟩ = some (.slice A0_0 l0_0.length c0_0) := (blk_cell BK214.out 0).trans rfl
    have hfz17_0 := blk_frozen BK214.out 0
    go_wp2_with (first | ((with_reducible refine gate_callee (f := 21) rfl ?_); refine goesL_ (some 24) rfl rfl Try.func21 (by kernel_rfl) rfl #[.agg #[.slice A0_0 l0_0.length c0_0]] rfl (by (try simp only [List.map_toArray, List.map_cons, List.map_nil]); first | done | rfl | (simp only [List.length_drop, List.length_take]; rfl)) ?_; (with_reducible refine (crossbarref26_Few.calls _ _ l0_0 false _ ?side1 ?side2 A10.out).mono ?_); (case side1 => repeat (first | exact (Kd.C_below HR0_0.out HB.out) | (with_reducible refine Kd.C_alloc ?_ _) | (with_reducible refine Kd.C_drewN ?_ _) | (with_reducible refine Kd.C_drew ?_))); (case side2 => exact HC0_0.out); rintro e w18 ⟨rfl, hb⟩; refine ⟨_, rfl, ?_⟩; have n0_ := Aside0.mk (blk_below (g := gb214) (o := .cells #[.slice A0_0 l0_0.length c0_0] 24 (0, 0)) (by (with_reducible repeat (first | refine blk_drewN ?_ _ | refine blk_drew ?_ | refine blk_alloc ?_ _)); exact BK214.out) hb); have n1_ := Aside0.mk (below_step (by repeat (first | (with_reducible first | exact HB.out | apply below_alloc | apply pw_below_drewN | apply below_drew1 | refine below_set ?_ GE214.out) | exact HB.out)) hb); clear BK214; clear HB; have BK214 := n0_; have HB := n1_; clear n0_ n1_; (try clear hb); (try clear hb2); (try clear hk); (try clear hi)))
    go_meet
    case rel => exact ⟨_, (true), (by first | rfl | (simp; done) | (simp [*]; done)), H', ⟨by first | omega | exact Nat.le_refl _⟩, ⟨by (with_reducible repeat (first | refine blk_drewN ?_ _ | refine blk_drew ?_ | refine blk_alloc ?_ _)); exact BK214.out⟩, ⟨by repeat (first | (with_reducible first | exact HB.out | apply below_alloc | apply pw_below_drewN | apply below_drew1 | refine below_set ?_ GE214.out) | exact HB.out)⟩⟩
  case rest =>
   clear HC7
   try clear c1
   try clear c2
   try clear p2
   try clear c5
   try clear c6
   try clear c11
   try clear c12
   try clear c12b0
   try clear hcz13_0
   try clear hcz15_0
   try clear hcz17_0
   try clear hfz13_0
   try clear hfz15_0
   try clear hfz17_0
   obtain ⟨kq, x35_6, rfl, HA, HJ6, BK214, HB⟩ := hcut
   cases kq with
   | zero => exact absurd HA.out (by simp [crossbarlaw26_TariffPriceAdditive.j0])
   | succ kj6 =>
    have H := HA.out
    clear HA
    simp only [crossbarlaw26_TariffPriceAdditive.j0] at H
    by_cases c19 : x35_6 = true
    ·subst c19
     have H1 : (some true) = some r := by rw [if_pos rfl] at H; exact H
     clear H
     have H := H1
     clear H1
     obtain rfl := Option.some.inj H
     go_wp2
     go_ret
     exact ⟨by first | rfl | (simp [errW_none, errW_some] <;> rfl) | (simp [*, errW_none, errW_some] <;> rfl), by repeat (first | (with_reducible first | exact HB.out | apply below_alloc | apply pw_below_drewN | apply below_drew1 | refine below_set ?_ GE214.out) | exact HB.out)⟩
    ·replace c19 := Bool.eq_false_iff.mpr c19
     subst c19
     have H1 : ((tariff_Price.f kj6 l0_0 a1 a3).bind fun bt217 => (if bt217.2 = 0 then ((tariff_Price.f kj6 l0_0 a1 a2).bind fun bt219 => ((tariff_Price.f kj6 l0_0 a2 a3).bind fun bt221 => ((tariff_Price.f kj6 l0_0 a2 a2).bind fun bt223 => (if bt219.2 = 0 then (if bt221.2 = 0 then (if bt223.2 = 0 then (if bt217.1 = (wrap64 (bt219.1 + bt221.1)) then (crossbarlaw26_TariffPriceAdditive.j1 kj6 a1 a3 bt217.1 (bt223.1 != 0) l0_0) else (crossbarlaw26_TariffPriceAdditive.j1 kj6 a1 a3 bt217.1 true l0_0)) else (crossbarlaw26_TariffPriceAdditive.j1 kj6 a1 a3 bt217.1 true l0_0)) else (crossbarlaw26_TariffPriceAdditive.j1 kj6 a1 a3 bt217.1 true l0_0)) else (crossbarlaw26_TariffPriceAdditive.j1 kj6 a1 a3 bt217.1 true l0_0))))) else (some (bt217.1 == 0)))) = some r := by rw [if_neg (show ¬ (false = true) by decide)] at H; exact H
     clear H
     have H := H1
     clear H1
     replace H := Option.bind_eq_some_iff.mp H
     obtain ⟨⟨t217, t218⟩, A200, H⟩ := H
     replace H : (if t218 = 0 then ((tariff_Price.f kj6 l0_0 a1 a2).bind fun bt219 => ((tariff_Price.f kj6 l0_0 a2 a3).bind fun bt221 => ((tariff_Price.f kj6 l0_0 a2 a2).bind fun bt223 => (if bt219.2 = 0 then (if bt221.2 = 0 then (if bt223.2 = 0 then (if t217 = (wrap64 (bt219.1 + bt221.1)) then (crossbarlaw26_TariffPriceAdditive.j1 kj6 a1 a3 t217 (bt223.1 != 0) l0_0) else (crossbarlaw26_TariffPriceAdditive.j1 kj6 a1 a3 t217 true l0_0)) else (crossbarlaw26_TariffPriceAdditive.j1 kj6 a1 a3 t217 true l0_0)) else (crossbarlaw26_TariffPriceAdditive.j1 kj6 a1 a3 t217 true l0_0)) else (crossbarlaw26_TariffPriceAdditive.j1 kj6 a1 a3 t217 true l0_0))))) else (some (t217 == 0))) = some r := H
     have A20 := Aside0.mk A200
     clear A200
     by_cases c21 : t218 = 0
     ·rw [if_pos c21] at H
      have c21b0 : (t218 == 0) = true := beq_iff_eq.mpr c21
      have c21b1 : (t218 != 0) = false := bne_eq_false_iff_eq.mpr c21
      clear c21
      replace H := Option.bind_eq_some_iff.mp H
      obtain ⟨⟨t219, t220⟩, A220, H⟩ := H
      replace H : ((tariff_Price.f kj6 l0_0 a2 a3).bind fun bt221 => ((tariff_Price.f kj6 l0_0 a2 a2).bind fun bt223 => (if t220 = 0 then (if bt221.2 = 0 then (if bt223.2 = 0 then (if t217 = (wrap64 (t219 + bt221.1)) then (crossbarlaw26_TariffPriceAdditive.j1 kj6 a1 a3 t217 (bt223.1 != 0) l0_0) else (crossbarlaw26_TariffPriceAdditive.j1 kj6 a1 a3 t217 true l0_0)) else (crossbarlaw26_TariffPriceAdditive.j1 kj6 a1 a3 t217 true l0_0)) else (crossbarlaw26_TariffPriceAdditive.j1 kj6 a1 a3 t217 true l0_0)) else (crossbarlaw26_TariffPriceAdditive.j1 kj6 a1 a3 t217 true l0_0)))) = some r := H
      have A22 := Aside0.mk A220
      clear A220
      replace H := Option.bind_eq_some_iff.mp H
      obtain ⟨⟨t221, t222⟩, A230, H⟩ := H
      replace H : ((tariff_Price.f kj6 l0_0 a2 a2).bind fun bt223 => (if t220 = 0 then (if t222 = 0 then (if bt223.2 = 0 then (if t217 = (wrap64 (t219 + t221)) then (crossbarlaw26_TariffPriceAdditive.j1 kj6 a1 a3 t217 (bt223.1 != 0) l0_0) else (crossbarlaw26_TariffPriceAdditive.j1 kj6 a1 a3 t217 true l0_0)) else (crossbarlaw26_TariffPriceAdditive.j1 kj6 a1 a3 t217 true l0_0)) else (crossbarlaw26_TariffPriceAdditive.j1 kj6 a1 a3 t217 true l0_0)) else (crossbarlaw26_TariffPriceAdditive.j1 kj6 a1 a3 t217 true l0_0))) = some r := H
      have A23 := Aside0.mk A230
      clear A230
      replace H := Option.bind_eq_some_iff.mp H
      obtain ⟨⟨t223, t224⟩, A240, H⟩ := H
      replace H : (if t220 = 0 then (if t222 = 0 then (if t224 = 0 then (if t217 = (wrap64 (t219 + t221)) then (crossbarlaw26_TariffPriceAdditive.j1 kj6 a1 a3 t217 (t223 != 0) l0_0) else (crossbarlaw26_TariffPriceAdditive.j1 kj6 a1 a3 t217 true l0_0)) else (crossbarlaw26_TariffPriceAdditive.j1 kj6 a1 a3 t217 true l0_0)) else (crossbarlaw26_TariffPriceAdditive.j1 kj6 a1 a3 t217 true l0_0)) else (crossbarlaw26_TariffPriceAdditive.j1 kj6 a1 a3 t217 true l0_0)) = some r := H
      have A24 := Aside0.mk A240
      clear A240
      have HC25 := Aside0.mk H
      clear H
      have hcz26_0 : wc.cell? ⟨gb214, 0, none⟩ = some (.slice A0_0 l0_0.length c0_0) := (blk_cell BK214.out 0).trans rfl
      have hfz26_0 := blk_frozen BK214.out 0
      go_upto_region 11 with (first | ((with_reducible refine gate_callee (f := 28) rfl ?_); refine goesL_ (some 40) rfl rfl Try.func28 (by kernel_rfl) rfl #[.agg #[.slice A0_0 l0_0.length c0_0], .int .i64 a1, .int .i64 a3] rfl (by (try simp only [List.map_toArray, List.map_cons, List.map_nil]); first | done | rfl | (simp only [List.length_drop, List.length_take]; rfl)) ?_; (with_reducible refine (tariff_Price.calls kj6 _ _ l0_0 a1 a3 t217 t218 _ ?side1 ?side2 A20.out).mono ?_); (case side1 => repeat (first | exact (Kd.C_below HR0_0.out HB.out) | (with_reducible refine Kd.C_alloc ?_ _) | (with_reducible refine Kd.C_drewN ?_ _) | (with_reducible refine Kd.C_drew ?_))); (case side2 => exact HC0_0.out); rintro e w27 ⟨rfl, hb⟩; refine ⟨_, rfl, ?_⟩; have n0_ := Aside0.mk (blk_below (g := gb214) (o := .cells #[.slice A0_0 l0_0.length c0_0] 24 (0, 0)) (by (with_reducible repeat (first | refine blk_drewN ?_ _ | refine blk_drew ?_ | refine blk_alloc ?_ _)); exact BK214.out) hb); have n1_ := Aside0.mk (below_step (by repeat (first | (with_reducible first | exact HB.out | apply below_alloc | apply pw_below_drewN | apply below_drew1 | refine below_set ?_ GE214.out) | exact HB.out)) hb); clear BK214; clear HB; have BK214 := n0_; have HB := n1_; clear n0_ n1_; (try clear hb); (try clear hb2); (try clear hk); (try clear hi); have hcz28_0 : w27.cell? ⟨gb214, 0, none⟩ = some (.slice A0_0 l0_0.length c0_0) := (blk_cell BK214.out 0).trans rfl; have hfz28_0 := blk_frozen BK214.out 0) | ((with_reducible refine gate_callee (f := 28) rfl ?_); refine goesL_ (some 51) rfl rfl Try.func28 (by kernel_rfl) rfl #[.agg #[.slice A0_0 l0_0.length c0_0], .int .i64 a1, .int .i64 a2] rfl (by (try simp only [List.map_toArray, List.map_cons, List.map_nil]); first | done | rfl | (simp only [List.length_drop, List.length_take]; rfl)) ?_; (with_reducible refine (tariff_Price.calls kj6 _ _ l0_0 a1 a2 t219 t220 _ ?side1 ?side2 A22.out).mono ?_); (case side1 => repeat (first | exact (Kd.C_below HR0_0.out HB.out) | (with_reducible refine Kd.C_alloc ?_ _) | (with_reducible refine Kd.C_drewN ?_ _) | (with_reducible refine Kd.C_drew ?_))); (case side2 => exact HC0_0.out); rintro e w29 ⟨rfl, hb⟩; refine ⟨_, rfl, ?_⟩; have n0_ := Aside0.mk (blk_below (g := gb214) (o := .cells #[.slice A0_0 l0_0.length c0_0] 24 (0, 0)) (by (with_reducible repeat (first | refine blk_drewN ?_ _ | refine blk_drew ?_ | refine blk_alloc ?_ _)); exact BK214.out) hb); have n1_ := Aside0.mk (below_step (by repeat (first | (with_reducible first | exact HB.out | apply below_alloc | apply pw_below_drewN | apply below_drew1 | refine below_set ?_ GE214.out) | exact HB.out)) hb); clear BK214; clear HB; have BK214 := n0_; have HB := n1_; clear n0_ n1_; (try clear hb); (try clear hb2); (try clear hk); (try clear hi); have hcz30_0 : w29.cell? ⟨gb214, 0, none⟩ = some (.slice A0_0 l0_0.length c0_0) := (blk_cell BK214.out 0).trans rfl; have hfz30_0 := blk_frozen BK214.out 0) | ((with_reducible refine gate_callee (f := 28) rfl ?_); refine goesL_ (some 58) rfl rfl Try.func28 (by kernel_rfl) rfl #[.agg #[.slice A0_0 l0_0.length c0_0], .int .i64 a2, .int .i64 a3] rfl (by (try simp only [List.map_toArray, List.map_cons, List.map_nil]); first | done | rfl | (simp only [List.length_drop, List.length_take]; rfl)) ?_; (with_reducible refine (tariff_Price.calls kj6 _ _ l0_0 a2 a3 t221 t222 _ ?side1 ?side2 A23.out).mono ?_); (case side1 => repeat (first | exact (Kd.C_below HR0_0.out HB.out) | (with_reducible refine Kd.C_alloc ?_ _) | (with_reducible refine Kd.C_drewN ?_ _) | (with_reducible refine Kd.C_drew ?_))); (case side2 => exact HC0_0.out); rintro e w31 ⟨rfl, hb⟩; refine ⟨_, rfl, ?_⟩; have n0_ := Aside0.mk (blk_below (g := gb214) (o := .cells #[.slice A0_0 l0_0.length c0_0] 24 (0, 0)) (by (with_reducible repeat (first | refine blk_drewN ?_ _ | refine blk_drew ?_ | refine blk_alloc ?_ _)); exact BK214.out) hb); have n1_ := Aside0.mk (below_step (by repeat (first | (with_reducible first | exact HB.out | apply below_alloc | apply pw_below_drewN | apply below_drew1 | refine below_set ?_ GE214.out) | exact HB.out)) hb); clear BK214; clear HB; have BK214 := n0_; have HB := n1_; clear n0_ n1_; (try clear hb); (try clear hb2); (try clear hk); (try clear hi); have hcz32_0 : w31.cell? ⟨gb214, 0, none⟩ = some (.slice A0_0 l0_0.length c0_0) := (blk_cell BK214.out 0).trans rfl; have hfz32_0 := blk_frozen BK214.out 0) | ((with_reducible refine gate_callee (f := 28) rfl ?_); refine goesL_ (some 65) rfl rfl Try.func28 (by kernel_rfl) rfl #[.agg #[.slice A0_0 l0_0.length c0_0], .int .i64 a2, .int .i64 a2] rfl (by (try simp only [List.map_toArray, List.map_cons, List.map_nil]); first | done | rfl | (simp only [List.length_drop, List.length_take]; rfl)) ?_; (with_reducible refine (tariff_Price.calls kj6 _ _ l0_0 a2 a2 t223 t224 _ ?side1 ?side2 A24.out).mono ?_); (case side1 => repeat (first | exact (Kd.C_below HR0_0.out HB.out) | (with_reducible refine Kd.C_alloc ?_ _) | (with_reducible refine Kd.C_drewN ?_ _) | (with_reducible refine Kd.C_drew ?_))); (case side2 => exact HC0_0.out); rintro e w33 ⟨rfl, hb⟩; refine ⟨_, rfl, ?_⟩; have n0_ := Aside0.mk (blk_below (g := gb214) (o := .cells #[.slice A0_0 l0_0.length c0_0] 24 (0, 0)) (by (with_reducible repeat (first | refine blk_drewN ?_ _ | refine blk_drew ?_ | refine blk_alloc ?_ _)); exact BK214.out) hb); have n1_ := Aside0.mk (below_step (by repeat (first | (with_reducible first | exact HB.out | apply below_alloc | apply pw_below_drewN | apply below_drew1 | refine below_set ?_ GE214.out) | exact HB.out)) hb); clear BK214; clear HB; have BK214 := n0_; have HB := n1_; clear n0_ n1_; (try clear hb); (try clear hb2); (try clear hk); (try clear hi)))
      (try simp only [Act.put, List.setIfInBounds_toArray, List.set_cons_zero, List.set_cons_succ])
      go_cut [88] (fun v88 wc => ∃ (kq : Nat) (x88_24 : Bool), v88 = .bool x88_24 ∧ Aside0 (crossbarlaw26_TariffPriceAdditive.j1 kq a1 a3 t217 x88_24 l0_0 = some r) ∧ Aside0 (kq ≤ kj6) ∧ Aside0 (wc.heap[gb214]? = some (.cells #[(.slice A0_0 l0_0.length c0_0)] 24 (0, 0))) ∧ Aside0 (Below w.heap.size w wc))
      case first =>
       have H := HC25.out
       clear HC25
       by_cases c34 : t220 = 0
       ·rw [if_pos c34] at H
        have c34b0 : (t220 == 0) = true := beq_iff_eq.mpr c34
        have c34b1 : (t220 != 0) = false := bne_eq_false_iff_eq.mpr c34
        clear c34
        (first | rw [c34b0] | (simp only [i64_w, i32_w]; rw [c34b0]) | skip)
        by_cases c35 : t222 = 0
        ·rw [if_pos c35] at H
         have c35b0 : (t222 == 0) = true := beq_iff_eq.mpr c35
         have c35b1 : (t222 != 0) = false := bne_eq_false_iff_eq.mpr c35
         clear c35
         by_cases c36 : t224 = 0
         ·rw [if_pos c36] at H
          have c36b0 : (t224 == 0) = true := beq_iff_eq.mpr c36
          have c36b1 : (t224 != 0) = false := bne_eq_false_iff_eq.mpr c36
          clear c36
          by_cases c37 : t217 = (wrap64 (t219 + t221))
          ·rw [if_pos c37] at H
           have c37b0 : (t217 == (wrap64 (t219 + t221))) = true := beq_iff_eq.mpr c37
           have c37b1 : (t217 != (wrap64 (t219 + t221))) = false := bne_eq_false_iff_eq.mpr c37
           clear c37
           have H' := Aside0.mk H
           clear H
           go_wp2
           go_meet
           case rel => exact ⟨_, ((t223 != 0)), (by first | rfl | (simp; done) | (simp [*]; done)), H', ⟨by have := HJ6.out; first | omega | exact Nat.le_refl _⟩, ⟨by (with_reducible repeat (first | refine blk_drewN ?_ _ | refine blk_drew ?_ | refine blk_alloc ?_ _)); exact BK214.out⟩, ⟨by repeat (first | (with_reducible first | exact HB.out | apply below_alloc | apply pw_below_drewN | apply below_drew1 | refine below_set ?_ GE214.out) | exact HB.out)⟩⟩
          ·rw [if_neg c37] at H
           have c37b0 : (t217 == (wrap64 (t219 + t221))) = false := beq_eq_false_iff_ne.mpr c37
           have c37b1 : (t217 != (wrap64 (t219 + t221))) = true := bne_iff_ne.mpr c37
           have H' := Aside0.mk H
           clear H
           go_wp2
           go_meet
           case rel => exact ⟨_, (true), (by first | rfl | (simp; done) | (simp [*]; done)), H', ⟨by have := HJ6.out; first | omega | exact Nat.le_refl _⟩, ⟨by (with_reducible repeat (first | refine blk_drewN ?_ _ | refine blk_drew ?_ | refine blk_alloc ?_ _)); exact BK214.out⟩, ⟨by repeat (first | (with_reducible first | exact HB.out | apply below_alloc | apply pw_below_drewN | apply below_drew1 | refine below_set ?_ GE214.out) | exact HB.out)⟩⟩
         ·rw [if_neg c36] at H
          have c36b0 : (t224 == 0) = false := beq_eq_false_iff_ne.mpr c36
          have c36b1 : (t224 != 0) = true := bne_iff_ne.mpr c36
          have H' := Aside0.mk H
          clear H
          go_wp2
          go_meet
          case rel => exact ⟨_, (true), (by first | rfl | (simp; done) | (simp [*]; done)), H', ⟨by have := HJ6.out; first | omega | exact Nat.le_refl _⟩, ⟨by (with_reducible repeat (first | refine blk_drewN ?_ _ | refine blk_drew ?_ | refine blk_alloc ?_ _)); exact BK214.out⟩, ⟨by repeat (first | (with_reducible first | exact HB.out | apply below_alloc | apply pw_below_drewN | apply below_drew1 | refine below_set ?_ GE214.out) | exact HB.out)⟩⟩
        ·rw [if_neg c35] at H
         have c35b0 : (t222 == 0) = false := beq_eq_false_iff_ne.mpr c35
         have c35b1 : (t222 != 0) = true := bne_iff_ne.mpr c35
         have H' := Aside0.mk H
         clear H
         go_wp2
         go_meet
         case rel => exact ⟨_, (true), (by first | rfl | (simp; done) | (simp [*]; done)), H', ⟨by have := HJ6.out; first | omega | exact Nat.le_refl _⟩, ⟨by (with_reducible repeat (first | refine blk_drewN ?_ _ | refine blk_drew ?_ | refine blk_alloc ?_ _)); exact BK214.out⟩, ⟨by repeat (first | (with_reducible first | exact HB.out | apply below_alloc | apply pw_below_drewN | apply below_drew1 | refine below_set ?_ GE214.out) | exact HB.out)⟩⟩
       ·rw [if_neg c34] at H
        have c34b0 : (t220 == 0) = false := beq_eq_false_iff_ne.mpr c34
        have c34b1 : (t220 != 0) = true := bne_iff_ne.mpr c34
        (first | rw [c34b0] | (simp only [i64_w, i32_w]; rw [c34b0]) | skip)
        have H' := Aside0.mk H
        clear H
        go_wp2
        go_meet
        case rel => exact ⟨_, (true), (by first | rfl | (simp; done) | (simp [*]; done)), H', ⟨by have := HJ6.out; first | omega | exact Nat.le_refl _⟩, ⟨by (with_reducible repeat (first | refine blk_drewN ?_ _ | refine blk_drew ?_ | refine blk_alloc ?_ _)); exact BK214.out⟩, ⟨by repeat (first | (with_reducible first | exact HB.out | apply below_alloc | apply pw_below_drewN | apply below_drew1 | refine below_set ?_ GE214.out) | exact HB.out)⟩⟩
      case rest =>
       clear HC25
       try clear c1
       try clear c2
       try clear p2
       try clear c3
       try clear c5
       try clear c6
       try clear p6
       try clear c11
       try clear c12
       try clear c12b0
       try clear c19
       try clear c20
       try clear c21
       try clear c21b0
       try clear c21b1
       try clear c28
       try clear c34
       try clear c34b0
       try clear c34b1
       try clear c35
       try clear c35b0
       try clear c35b1
       try clear c36
       try clear c36b0
       try clear c36b1
       try clear c37
       try clear c37b0
       try clear c37b1
       try clear hcz13_0
       try clear hcz15_0
       try clear hcz17_0
       try clear hcz26_0
       try clear hcz28_0
       try clear hcz30_0
       try clear hcz32_0
       try clear hfz13_0
       try clear hfz15_0
       try clear hfz17_0
       try clear hfz26_0
       try clear hfz28_0
       try clear hfz30_0
       try clear hfz32_0
       try clear p2
       obtain ⟨kq, x88_24, rfl, HA, HJ24, BK214, HB⟩ := hcut
       cases kq with
       | zero => exact absurd HA.out (by simp [crossbarlaw26_TariffPriceAdditive.j1])
       | succ kj24 =>
        have H := HA.out
        clear HA
        simp only [crossbarlaw26_TariffPriceAdditive.j1] at H
        by_cases c38 : x88_24 = true
        ·subst c38
         have H1 : (some false) = some r := by rw [if_pos rfl] at H; exact H
         clear H
         have H := H1
         clear H1
         exact absurd ((Option.some.inj H).trans HT_TRUE.out) (by simp)
        ·replace c38 := Bool.eq_false_iff.mpr c38
         subst c38
         have H1 : (if a1 = a3 then (some (t217 == 0)) else ((tariff_Price.f kj24 l0_0 a1 (wrap64 (a1 + 1))).bind fun bt225 => ((tariff_Rate.f kj24 l0_0 a1).bind fun bt227 => (if bt225.2 = 0 then (if bt227.2 = 0 then (some (bt225.1 == bt227.1)) else (some false)) else (some false))))) = some r := by rw [if_neg (show ¬ (false = true) by decide)] at H; exact H
         clear H
         have H := H1
         clear H1
         by_cases c39 : a1 = a3
         ·rw [if_pos c39] at H
          have c39b0 : (a1 == a3) = true := beq_iff_eq.mpr c39
          have c39b1 : (a1 != a3) = false := bne_eq_false_iff_eq.mpr c39
          clear c39
          obtain rfl := Option.some.inj H
          go_wp2
          go_ret
          exact ⟨by first | rfl | (simp [errW_none, errW_some] <;> rfl) | (simp [*, errW_none, errW_some] <;> rfl), by repeat (first | (with_reducible first | exact HB.out | apply below_alloc | apply pw_below_drewN | apply below_drew1 | refine below_set ?_ GE214.out) | exact HB.out)⟩
         ·rw [if_neg c39] at H
          have c39b0 : (a1 == a3) = false := beq_eq_false_iff_ne.mpr c39
          have c39b1 : (a1 != a3) = true := bne_iff_ne.mpr c39
          replace H := Option.bind_eq_some_iff.mp H
          obtain ⟨⟨t225, t226⟩, A400, H⟩ := H
          replace H : ((tariff_Rate.f kj24 l0_0 a1).bind fun bt227 => (if t226 = 0 then (if bt227.2 = 0 then (some (t225 == bt227.1)) else (some false)) else (some false))) = some r := H
          have A40 := Aside0.mk A400
          clear A400
          replace H := Option.bind_eq_some_iff.mp H
          obtain ⟨⟨t227, t228⟩, A410, H⟩ := H
          replace H : (if t226 = 0 then (if t228 = 0 then (some (t225 == t227)) else (some false)) else (some false)) = some r := H
          have A41 := Aside0.mk A410
          clear A410
          by_cases c42 : t226 = 0
          ·rw [if_pos c42] at H
           have c42b0 : (t226 == 0) = true := beq_iff_eq.mpr c42
           have c42b1 : (t226 != 0) = false := bne_eq_false_iff_eq.mpr c42
           clear c42
           by_cases c43 : t228 = 0
           ·rw [if_pos c43] at H
            have c43b0 : (t228 == 0) = true := beq_iff_eq.mpr c43
            have c43b1 : (t228 != 0) = false := bne_eq_false_iff_eq.mpr c43
            clear c43
            obtain rfl := Option.some.inj H
            have hcz44_0 : wc.cell? ⟨gb214, 0, none⟩ = some (.slice A0_0 l0_0.length c0_0) := (blk_cell BK214.out 0).trans rfl
            have hfz44_0 := blk_frozen BK214.out 0
            go_wp2_with (first | ((with_reducible refine gate_callee (f := 28) rfl ?_); refine goesL_ (some 99) rfl rfl Try.func28 (by kernel_rfl) rfl #[.agg #[.slice A0_0 l0_0.length c0_0], .int .i64 a1, .int .i64 (wrap64 (a1 + 1))] rfl (by (try simp only [List.map_toArray, List.map_cons, List.map_nil]); first | done | rfl | (simp only [List.length_drop, List.length_take]; rfl)) ?_; (with_reducible refine (tariff_Price.calls kj24 _ _ l0_0 a1 (wrap64 (a1 + 1)) t225 t226 _ ?side1 ?side2 A40.out).mono ?_); (case side1 => repeat (first | exact (Kd.C_below HR0_0.out HB.out) | (with_reducible refine Kd.C_alloc ?_ _) | (with_reducible refine Kd.C_drewN ?_ _) | (with_reducible refine Kd.C_drew ?_))); (case side2 => exact HC0_0.out); rintro e w45 ⟨rfl, hb⟩; refine ⟨_, rfl, ?_⟩; have n0_ := Aside0.mk (blk_below (g := gb214) (o := .cells #[.slice A0_0 l0_0.length c0_0] 24 (0, 0)) (by (with_reducible repeat (first | refine blk_drewN ?_ _ | refine blk_drew ?_ | refine blk_alloc ?_ _)); exact BK214.out) hb); have n1_ := Aside0.mk (below_step (by repeat (first | (with_reducible first | exact HB.out | apply below_alloc | apply pw_below_drewN | apply below_drew1 | refine below_set ?_ GE214.out) | exact HB.out)) hb); clear BK214; clear HB; have BK214 := n0_; have HB := n1_; clear n0_ n1_; (try clear hb); (try clear hb2); (try clear hk); (try clear hi); have hcz46_0 : w45.cell? ⟨gb214, 0, none⟩ = some (.slice A0_0 l0_0.length c0_0) := (blk_cell BK214.out 0).trans rfl; have hfz46_0 := blk_frozen BK214.out 0) | ((with_reducible refine gate_callee (f := 22) rfl ?_); refine goesL_ (some 105) rfl rfl Try.func22 (by kernel_rfl) rfl #[.agg #[.slice A0_0 l0_0.length c0_0], .int .i64 a1] rfl (by (try simp only [List.map_toArray, List.map_cons, List.map_nil]); first | done | rfl | (simp only [List.length_drop, List.length_take]; rfl)) ?_; (with_reducible refine (tariff_Rate.calls kj24 _ _ l0_0 a1 t227 t228 _ ?side1 ?side2 A41.out).mono ?_); (case side1 => repeat (first | exact (Kd.C_below HR0_0.out HB.out) | (with_reducible refine Kd.C_alloc ?_ _) | (with_reducible refine Kd.C_drewN ?_ _) | (with_reducible refine Kd.C_drew ?_))); (case side2 => exact HC0_0.out); rintro e w47 ⟨rfl, hb⟩; refine ⟨_, rfl, ?_⟩; have n0_ := Aside0.mk (blk_below (g := gb214) (o := .cells #[.slice A0_0 l0_0.length c0_0] 24 (0, 0)) (by (with_reducible repeat (first | refine blk_drewN ?_ _ | refine blk_drew ?_ | refine blk_alloc ?_ _)); exact BK214.out) hb); have n1_ := Aside0.mk (below_step (by repeat (first | (with_reducible first | exact HB.out | apply below_alloc | apply pw_below_drewN | apply below_drew1 | refine below_set ?_ GE214.out) | exact HB.out)) hb); clear BK214; clear HB; have BK214 := n0_; have HB := n1_; clear n0_ n1_; (try clear hb); (try clear hb2); (try clear hk); (try clear hi)))
            go_ret
            exact ⟨by first | rfl | (simp [errW_none, errW_some] <;> rfl) | (simp [*, errW_none, errW_some] <;> rfl), by repeat (first | (with_reducible first | exact HB.out | apply below_alloc | apply pw_below_drewN | apply below_drew1 | refine below_set ?_ GE214.out) | exact HB.out)⟩
           ·rw [if_neg c43] at H
            have c43b0 : (t228 == 0) = false := beq_eq_false_iff_ne.mpr c43
            have c43b1 : (t228 != 0) = true := bne_iff_ne.mpr c43
            exact absurd ((Option.some.inj H).trans HT_TRUE.out) (by simp)
          ·rw [if_neg c42] at H
           have c42b0 : (t226 == 0) = false := beq_eq_false_iff_ne.mpr c42
           have c42b1 : (t226 != 0) = true := bne_iff_ne.mpr c42
           exact absurd ((Option.some.inj H).trans HT_TRUE.out) (by simp)
     ·rw [if_neg c21] at H
      have c21b0 : (t218 == 0) = false := beq_eq_false_iff_ne.mpr c21
      have c21b1 : (t218 != 0) = true := bne_iff_ne.mpr c21
      obtain rfl := Option.some.inj H
      have hcz48_0 : wc.cell? ⟨gb214, 0, none⟩ = some (.slice A0_0 l0_0.length c0_0) := (blk_cell BK214.out 0).trans rfl
      have hfz48_0 := blk_frozen BK214.out 0
      go_wp2_with (first | ((with_reducible refine gate_callee (f := 28) rfl ?_); refine goesL_ (some 40) rfl rfl Try.func28 (by kernel_rfl) rfl #[.agg #[.slice A0_0 l0_0.length c0_0], .int .i64 a1, .int .i64 a3] rfl (by (try simp only [List.map_toArray, List.map_cons, List.map_nil]); first | done | rfl | (simp only [List.length_drop, List.length_take]; rfl)) ?_; (with_reducible refine (tariff_Price.calls kj6 _ _ l0_0 a1 a3 t217 t218 _ ?side1 ?side2 A20.out).mono ?_); (case side1 => repeat (first | exact (Kd.C_below HR0_0.out HB.out) | (with_reducible refine Kd.C_alloc ?_ _) | (with_reducible refine Kd.C_drewN ?_ _) | (with_reducible refine Kd.C_drew ?_))); (case side2 => exact HC0_0.out); rintro e w49 ⟨rfl, hb⟩; refine ⟨_, rfl, ?_⟩; have n0_ := Aside0.mk (blk_below (g := gb214) (o := .cells #[.slice A0_0 l0_0.length c0_0] 24 (0, 0)) (by (with_reducible repeat (first | refine blk_drewN ?_ _ | refine blk_drew ?_ | refine blk_alloc ?_ _)); exact BK214.out) hb); have n1_ := Aside0.mk (below_step (by repeat (first | (with_reducible first | exact HB.out | apply below_alloc | apply pw_below_drewN | apply below_drew1 | refine below_set ?_ GE214.out) | exact HB.out)) hb); clear BK214; clear HB; have BK214 := n0_; have HB := n1_; clear n0_ n1_; (try clear hb); (try clear hb2); (try clear hk); (try clear hi)))
      go_ret
      exact ⟨by first | rfl | (simp [errW_none, errW_some] <;> rfl) | (simp [*, errW_none, errW_some] <;> rfl), by repeat (first | (with_reducible first | exact HB.out | apply below_alloc | apply pw_below_drewN | apply below_drew1 | refine below_set ?_ GE214.out) | exact HB.out)⟩
 ·replace c6 := Bool.eq_false_iff.mpr c6
  subst c6
  have H1 : (some false) = some r := by rw [if_neg (show ¬ (false = true) by decide)] at H; exact H
  clear H
  have H := H1
  clear H1
  exact absurd ((Option.some.inj H).trans HT_TRUE.out) (by simp)

end Go.Proofs.Ytldpacphackdjaa.Print
