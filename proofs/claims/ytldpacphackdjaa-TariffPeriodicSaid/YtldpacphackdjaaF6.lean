/- That the call of function 6 (crossbarlaw26_TariffPeriodic) answers what the Lean function of the same name answers, at every input at which that one answers. (Written by a program of the session, which drives the kit's printer.) -/
import Derived.Test.YtldpacphackdjaaK0
import Derived.Test.YtldpacphackdjaaF26
import Derived.Test.YtldpacphackdjaaF22
import Derived.Test.YtldpacphackdjaaF24
import Derived.Test.YtldpacphackdjaaF28
import Derived.Test.YtldpacphackdjaaF20
import Derived.Test.YtldpacphackdjaaF21
namespace Go.Proofs.Ytldpacphackdjaa.Print
open Go.RowKit Go.Proofs.YtldpacphackdjaaW.PrintWords Go.Proofs.YtldpacphackdjaaW.PrintLast Go.Proofs.YtldpacphackdjaaW.PrintMore
attribute [local go_sem] max2_int min2_int max_two min_two max_three min_three max_four min_four   -- for this text's walks alone
set_option linter.unusedVariables false
set_option linter.unusedSimpArgs false

/-! ### crossbarlaw26_TariffPeriodic: function 6 -/
def crossbarlaw26_TariffPeriodic.j0 : Nat → Int → Int → Int → Bool → List (S42) → Option (Bool)
 | 0, _, _, _, _, _ => none
 | k + 1, x1, x2, x9, x52, x230000 => if x52 = true then (some true) else ((tariff_Rate.f k x230000 x1).bind fun bt233 => ((tariff_Rate.f k x230000 (wrap64 (x1 + x9))).bind fun bt235 => ((tariff_Price.f k x230000 x1 x2).bind fun bt237 => ((tariff_Price.f k x230000 (wrap64 (x1 + x9)) (wrap64 (x2 + x9))).bind fun bt239 => ((tariff_Change.f k x230000 x1).bind fun bt241 => ((tariff_Change.f k x230000 (wrap64 (x1 + x9))).bind fun bt244 => (if bt233.2 = 0 then (if bt235.2 = 0 then (if bt237.2 = 0 then (if bt239.2 = 0 then (if bt241.2.2 = 0 then (if bt244.2.2 = 0 then (if bt233.1 = bt235.1 then (if bt237.1 = bt239.1 then (if (bt241.2.1 == bt244.2.1) = true then (if bt241.2.1 = true then (some (bt244.1 == (wrap64 (bt241.1 + x9)))) else (some true)) else (some false)) else (some false)) else (some false)) else (some false)) else (some false)) else (some false)) else (some false)) else (some false)) else (some false))))))))
def crossbarlaw26_TariffPeriodic.f (k : Nat) (l0_0 : List (S42)) (a1 : Int) (a2 : Int) (a3 : Int) : Option (Bool) := (crossbarlaw26_sane.f k).bind fun t230 => (if t230 = true then ((crossbarref26_Few.f l0_0).bind fun t231 => (if t231 = true then ((tariff_Check.f k l0_0).bind fun t232 => (if t232 = 0 then (if a1 < 0 then (crossbarlaw26_TariffPeriodic.j0 k a1 a2 (wrap64 ((wrap64 (a3)) * 86400)) true l0_0) else (if a2 < a1 then (crossbarlaw26_TariffPeriodic.j0 k a1 a2 (wrap64 ((wrap64 (a3)) * 86400)) true l0_0) else (crossbarlaw26_TariffPeriodic.j0 k a1 a2 (wrap64 ((wrap64 (a3)) * 86400)) (decide (a2 > (wrap64 (1099511627776 - (wrap64 ((wrap64 (a3)) * 86400)))))) l0_0))) else (crossbarlaw26_TariffPeriodic.j0 k a1 a2 (wrap64 ((wrap64 (a3)) * 86400)) true l0_0))) else (crossbarlaw26_TariffPeriodic.j0 k a1 a2 (wrap64 ((wrap64 (a3)) * 86400)) true l0_0))) else (some false))
theorem crossbarlaw26_TariffPeriodic.mono_l : ∀ k, (∀ y0 y1 y2 y3 y4, LeO (crossbarlaw26_TariffPeriodic.j0 k y0 y1 y2 y3 y4) (crossbarlaw26_TariffPeriodic.j0 (k + 1) y0 y1 y2 y3 y4))
 | 0 => fun _ _ _ _ _ r h => by simp [crossbarlaw26_TariffPeriodic.j0] at h
 | k + 1 => by
  have ih0 := crossbarlaw26_TariffPeriodic.mono_l k
  ·intro y0 y1 y2 y3 y4
   unfold crossbarlaw26_TariffPeriodic.j0
   repeat' first
   | (with_reducible exact ih0 _ _ _ _ _)
   | (with_reducible exact crossbarlaw26_sane.mono _)
   | (with_reducible exact tariff_Change.mono _ _ _)
   | (with_reducible exact tariff_Check.mono _ _)
   | (with_reducible exact tariff_Price.mono _ _ _ _)
   | (with_reducible exact tariff_Rate.mono _ _ _)
   | (with_reducible exact LeO.refl _)
   | (with_reducible exact LeO.none _)
   | (with_reducible refine LeO.ite ?_ ?_)
   | (with_reducible refine LeO.bind ?_ (fun _ => ?_))
   | exact ih0 _ _ _ _ _
   | exact crossbarlaw26_sane.mono _
   | exact tariff_Change.mono _ _ _
   | exact tariff_Check.mono _ _
   | exact tariff_Price.mono _ _ _ _
   | exact tariff_Rate.mono _ _ _
   | exact LeO.none _
   | refine LeO.ite ?_ ?_
   | refine LeO.bind ?_ (fun _ => ?_)
theorem crossbarlaw26_TariffPeriodic.mono : ∀ a0 a1 a2 a3 k, LeO (crossbarlaw26_TariffPeriodic.f k a0 a1 a2 a3) (crossbarlaw26_TariffPeriodic.f (k + 1) a0 a1 a2 a3) := by
 intro a0 a1 a2 a3 k
 have ih0 := crossbarlaw26_TariffPeriodic.mono_l k
 unfold crossbarlaw26_TariffPeriodic.f
 repeat' first
   | (with_reducible exact ih0 _ _ _ _ _)
   | (with_reducible exact crossbarlaw26_sane.mono _)
   | (with_reducible exact tariff_Change.mono _ _ _)
   | (with_reducible exact tariff_Check.mono _ _)
   | (with_reducible exact tariff_Price.mono _ _ _ _)
   | (with_reducible exact tariff_Rate.mono _ _ _)
   | (with_reducible exact LeO.refl _)
   | (with_reducible exact LeO.none _)
   | (with_reducible refine LeO.ite ?_ ?_)
   | (with_reducible refine LeO.bind ?_ (fun _ => ?_))
   | exact ih0 _ _ _ _ _
   | exact crossbarlaw26_sane.mono _
   | exact tariff_Change.mono _ _ _
   | exact tariff_Check.mono _ _
   | exact tariff_Price.mono _ _ _ _
   | exact tariff_Rate.mono _ _ _
   | exact LeO.none _
   | refine LeO.ite ?_ ?_
   | refine LeO.bind ?_ (fun _ => ?_)
set_option maxHeartbeats 8000000 in
set_option maxRecDepth 100000 in
theorem crossbarlaw26_TariffPeriodic.calls (k : Nat) (A0_0 : Option Addr) (c0_0 : Nat) (l0_0 : List (S42)) (a1 : Int) (a2 : Int) (a3 : Int) (r : Bool) (w : World) (hr0_0 : Kd.C k42 w A0_0 l0_0.length l0_0) (hc0_0 : l0_0.length ≤ c0_0) (h : crossbarlaw26_TariffPeriodic.f k l0_0 a1 a2 a3 = some r) (hT : r = true := by rfl) :
  Calls Try.prog 6 #[.agg #[.slice A0_0 l0_0.length c0_0], .int .i64 a1, .int .i64 a2, .int .u16 a3] w fun e w' => e = .returned (.bool r) ∧ Below w.heap.size w w' := by
 have HT_TRUE := Aside0.mk hT
 clear hT
 have hu24 := Try.underlying24
 have HR0_0 := Aside0.mk hr0_0
 have HC0_0 := Aside0.mk hc0_0
 clear hr0_0 hc0_0
 have HB := Aside0.mk (Below.refl w.heap.size w)
 have H : ((crossbarlaw26_sane.f k).bind fun t230 => (if t230 = true then ((crossbarref26_Few.f l0_0).bind fun t231 => (if t231 = true then ((tariff_Check.f k l0_0).bind fun t232 => (if t232 = 0 then (if a1 < 0 then (crossbarlaw26_TariffPeriodic.j0 k a1 a2 (wrap64 ((wrap64 (a3)) * 86400)) true l0_0) else (if a2 < a1 then (crossbarlaw26_TariffPeriodic.j0 k a1 a2 (wrap64 ((wrap64 (a3)) * 86400)) true l0_0) else (crossbarlaw26_TariffPeriodic.j0 k a1 a2 (wrap64 ((wrap64 (a3)) * 86400)) (decide (a2 > (wrap64 (1099511627776 - (wrap64 ((wrap64 (a3)) * 86400)))))) l0_0))) else (crossbarlaw26_TariffPeriodic.j0 k a1 a2 (wrap64 ((wrap64 (a3)) * 86400)) true l0_0))) else (crossbarlaw26_TariffPeriodic.j0 k a1 a2 (wrap64 ((wrap64 (a3)) * 86400)) true l0_0))) else (some false))) = some r := h
 clear h
 replace H := Option.bind_eq_some_iff.mp H
 obtain ⟨t230, A50, H⟩ := H
 replace H : (if t230 = true then ((crossbarref26_Few.f l0_0).bind fun t231 => (if t231 = true then ((tariff_Check.f k l0_0).bind fun t232 => (if t232 = 0 then (if a1 < 0 then (crossbarlaw26_TariffPeriodic.j0 k a1 a2 (wrap64 ((wrap64 (a3)) * 86400)) true l0_0) else (if a2 < a1 then (crossbarlaw26_TariffPeriodic.j0 k a1 a2 (wrap64 ((wrap64 (a3)) * 86400)) true l0_0) else (crossbarlaw26_TariffPeriodic.j0 k a1 a2 (wrap64 ((wrap64 (a3)) * 86400)) (decide (a2 > (wrap64 (1099511627776 - (wrap64 ((wrap64 (a3)) * 86400)))))) l0_0))) else (crossbarlaw26_TariffPeriodic.j0 k a1 a2 (wrap64 ((wrap64 (a3)) * 86400)) true l0_0))) else (crossbarlaw26_TariffPeriodic.j0 k a1 a2 (wrap64 ((wrap64 (a3)) * 86400)) true l0_0))) else (some false)) = some r := H
 have A5 := Aside0.mk A50
 clear A50
 by_cases c6 : t230 = true
 ·subst c6
  have H1 : ((crossbarref26_Few.f l0_0).bind fun t231 => (if t231 = true then ((tariff_Check.f k l0_0).bind fun t232 => (if t232 = 0 then (if a1 < 0 then (crossbarlaw26_TariffPeriodic.j0 k a1 a2 (wrap64 ((wrap64 (a3)) * 86400)) true l0_0) else (if a2 < a1 then (crossbarlaw26_TariffPeriodic.j0 k a1 a2 (wrap64 ((wrap64 (a3)) * 86400)) true l0_0) else (crossbarlaw26_TariffPeriodic.j0 k a1 a2 (wrap64 ((wrap64 (a3)) * 86400)) (decide (a2 > (wrap64 (1099511627776 - (wrap64 ((wrap64 (a3)) * 86400)))))) l0_0))) else (crossbarlaw26_TariffPeriodic.j0 k a1 a2 (wrap64 ((wrap64 (a3)) * 86400)) true l0_0))) else (crossbarlaw26_TariffPeriodic.j0 k a1 a2 (wrap64 ((wrap64 (a3)) * 86400)) true l0_0))) = some r := by rw [if_pos rfl] at H; exact H
  clear H
  have H := H1
  clear H1
  have HC7 := Aside0.mk H
  clear H
  go_enter Try.func6, Try.ntmps6
  go_upto_region 4 with (first | ((with_reducible refine gate_dst (N := 4) rfl ?_); refine box_event ?hg (N := 4) ?hd (cs := #[.slice A0_0 l0_0.length c0_0]) (t := 24) ?hr ?_; (case hd => rfl); (case hg => rfl); (case hr => first | (go_simp; done) | (go_simp; rfl)); intro gb229 hg w8 hbox hb; have n0_ := Aside0.mk (below_step (by repeat (first | (with_reducible first | exact HB.out | apply below_alloc | apply pw_below_drewN | apply below_drew1) | exact HB.out)) hb); have n1_ := Aside0.mk (hbox); have n2_ := Aside0.mk ((by rw [hg]; exact (below_size (by repeat (first | (with_reducible first | exact HB.out | apply below_alloc | apply pw_below_drewN | apply below_drew1) | exact HB.out))) : w.heap.size ≤ gb229)); have n3_ := Aside0.mk ((by rw [hg]; exact (below_size (by repeat (first | (with_reducible first | exact HB.out | apply below_alloc | apply pw_below_drewN | apply below_drew1) | exact HB.out))) : w.heap.size ≤ gb229)); clear HB; have HB := n0_; have BK229 := n1_; have GW229 := n2_; have GE229 := n3_; clear n0_ n1_ n2_ n3_; clear hb hbox hg) | ((with_reducible refine gate_callee (f := 20) rfl ?_); refine goesL_ (some 25) rfl rfl Try.func20 (by kernel_rfl) rfl #[] rfl (by (try simp only [List.map_toArray, List.map_cons, List.map_nil]); first | done | rfl | (simp only [List.length_drop, List.length_take]; rfl)) ?_; (with_reducible refine (crossbarlaw26_sane.calls k  true _ A5.out).mono ?_); rintro e w9 ⟨rfl, hb⟩; refine ⟨_, rfl, ?_⟩; have n0_ := Aside0.mk (blk_below (g := gb229) (o := .cells #[.slice A0_0 l0_0.length c0_0] 24 (0, 0)) (by (with_reducible repeat (first | refine blk_drewN ?_ _ | refine blk_drew ?_ | refine blk_alloc ?_ _)); exact BK229.out) hb); have n1_ := Aside0.mk (below_step (by repeat (first | (with_reducible first | exact HB.out | apply below_alloc | apply pw_below_drewN | apply below_drew1 | refine below_set ?_ GE229.out) | exact HB.out)) hb); clear BK229; clear HB; have BK229 := n0_; have HB := n1_; clear n0_ n1_; (try clear hb); (try clear hb2); (try clear hk); (try clear hi)))
  (try simp only [Act.put, List.setIfInBounds_toArray, List.set_cons_zero, List.set_cons_succ])
  go_cut [52] (fun v52 wc => ∃ (kq : Nat) (x52_6 : Bool), v52 = .bool x52_6 ∧ Aside0 (crossbarlaw26_TariffPeriodic.j0 kq a1 a2 (wrap64 ((wrap64 (a3)) * 86400)) x52_6 l0_0 = some r) ∧ Aside0 (kq ≤ k) ∧ Aside0 (wc.heap[gb229]? = some (.cells #[(.slice A0_0 l0_0.length c0_0)] 24 (0, 0))) ∧ Aside0 (Below w.heap.size w wc))
  case first =>
   have H := HC7.out
   clear HC7
   replace H := Option.bind_eq_some_iff.mp H
   obtain ⟨t231, A100, H⟩ := H
   replace H : (if t231 = true then ((tariff_Check.f k l0_0).bind fun t232 => (if t232 = 0 then (if a1 < 0 then (crossbarlaw26_TariffPeriodic.j0 k a1 a2 (wrap64 ((wrap64 (a3)) * 86400)) true l0_0) else (if a2 < a1 then (crossbarlaw26_TariffPeriodic.j0 k a1 a2 (wrap64 ((wrap64 (a3)) * 86400)) true l0_0) else (crossbarlaw26_TariffPeriodic.j0 k a1 a2 (wrap64 ((wrap64 (a3)) * 86400)) (decide (a2 > (wrap64 (1099511627776 - (wrap64 ((wrap64 (a3)) * 86400)))))) l0_0))) else (crossbarlaw26_TariffPeriodic.j0 k a1 a2 (wrap64 ((wrap64 (a3)) * 86400)) true l0_0))) else (crossbarlaw26_TariffPeriodic.j0 k a1 a2 (wrap64 ((wrap64 (a3)) * 86400)) true l0_0)) = some r := H
   have A10 := Aside0.mk A100
   clear A100
   by_cases c11 : t231 = true
   ·subst c11
    have H1 : ((tariff_Check.f k l0_0).bind fun t232 => (if t232 = 0 then (if a1 < 0 then (crossbarlaw26_TariffPeriodic.j0 k a1 a2 (wrap64 ((wrap64 (a3)) * 86400)) true l0_0) else (if a2 < a1 then (crossbarlaw26_TariffPeriodic.j0 k a1 a2 (wrap64 ((wrap64 (a3)) * 86400)) true l0_0) else (crossbarlaw26_TariffPeriodic.j0 k a1 a2 (wrap64 ((wrap64 (a3)) * 86400)) (decide (a2 > (wrap64 (1099511627776 - (wrap64 ((wrap64 (a3)) * 86400)))))) l0_0))) else (crossbarlaw26_TariffPeriodic.j0 k a1 a2 (wrap64 ((wrap64 (a3)) * 86400)) true l0_0))) = some r := by rw [if_pos rfl] at H; exact H
    clear H
    have H := H1
    clear H1
    replace H := Option.bind_eq_some_iff.mp H
    obtain ⟨t232, A120, H⟩ := H
    replace H : (if t232 = 0 then (if a1 < 0 then (crossbarlaw26_TariffPeriodic.j0 k a1 a2 (wrap64 ((wrap64 (a3)) * 86400)) true l0_0) else (if a2 < a1 then (crossbarlaw26_TariffPeriodic.j0 k a1 a2 (wrap64 ((wrap64 (a3)) * 86400)) true l0_0) else (crossbarlaw26_TariffPeriodic.j0 k a1 a2 (wrap64 ((wrap64 (a3)) * 86400)) (decide (a2 > (wrap64 (1099511627776 - (wrap64 ((wrap64 (a3)) * 86400)))))) l0_0))) else (crossbarlaw26_TariffPeriodic.j0 k a1 a2 (wrap64 ((wrap64 (a3)) * 86400)) true l0_0)) = some r := H
    have A12 := Aside0.mk A120
    clear A120
    by_cases c13 : t232 = 0
    ·rw [if_pos c13] at H
     have c13b0 : (t232 == 0) = true := beq_iff_eq.mpr c13
     have c13b1 : (t232 != 0) = false := bne_eq_false_iff_eq.mpr c13
     clear c13
     (first | rw [c13b0] | (simp only [i64_w, i32_w]; rw [c13b0]) | skip)
     by_cases c14 : a1 < 0
     ·rw [if_pos c14] at H
      have c14b0 : decide (a1 < 0) = true := decide_eq_true c14
      clear c14
      have H' := Aside0.mk H
      clear H
      have hcz15_0 : w9.cell? ⟨gb229, 0, none⟩ = some (.slice A0_0 l0_0.length c0_0) := (blk_cell BK229.out 0).trans rfl
      have hfz15_0 := blk_frozen BK229.out 0
      go_wp2_with (first | ((with_reducible refine gate_callee (f := 21) rfl ?_); refine goesL_ (some 31) rfl rfl Try.func21 (by kernel_rfl) rfl #[.agg #[.slice A0_0 l0_0.length c0_0]] rfl (by (try simp only [List.map_toArray, List.map_cons, List.map_nil]); first | done | rfl | (simp only [List.length_drop, List.length_take]; rfl)) ?_; (with_reducible refine (crossbarref26_Few.calls _ _ l0_0 true _ ?side1 ?side2 A10.out).mono ?_); (case side1 => repeat (first | exact (Kd.C_below HR0_0.out HB.out) | (with_reducible refine Kd.C_alloc ?_ _) | (with_reducible refine Kd.C_drewN ?_ _) | (with_reducible refine Kd.C_drew ?_))); (case side2 => exact HC0_0.out); rintro e w16 ⟨rfl, hb⟩; refine ⟨_, rfl, ?_⟩; have n0_ := Aside0.mk (blk_below (g := gb229) (o := .cells #[.slice A0_0 l0_0.length c0_0] 24 (0, 0)) (by (with_reducible repeat (first | refine blk_drewN ?_ _ | refine blk_drew ?_ | refine blk_alloc ?_ _)); exact BK229.out) hb); have n1_ := Aside0.mk (below_step (by repeat (first | (with_reducible first | exact HB.out | apply below_alloc | apply pw_below_drewN | apply below_drew1 | refine below_set ?_ GE229.out) | exact HB.out)) hb); clear BK229; clear HB; have BK229 := n0_; have HB := n1_; clear n0_ n1_; (try clear hb); (try clear hb2); (try clear hk); (try clear hi); have hcz17_0 : w16.cell? ⟨gb229, 0, none⟩ = some (.slice A0_0 l0_0.length c0_0) := (blk_cell BK229.out 0).trans rfl; have hfz17_0 := blk_frozen BK229.out 0) | (go_at_call 26; (with_reducible refine (tariff_Check.calls k _ _ l0_0 t232 _ ?side1 ?side2 A12.out).mono ?_); (case side1 => repeat (first | exact (Kd.C_below HR0_0.out HB.out) | (with_reducible refine Kd.C_alloc ?_ _) | (with_reducible refine Kd.C_drewN ?_ _) | (with_reducible refine Kd.C_drew ?_))); (case side2 => exact HC0_0.out); rintro e w18 ⟨rfl, hb⟩; have n0_ := Aside0.mk (blk_below (g := gb229) (o := .cells #[.slice A0_0 l0_0.length c0_0] 24 (0, 0)) (by (with_reducible repeat (first | refine blk_drewN ?_ _ | refine blk_drew ?_ | refine blk_alloc ?_ _)); exact BK229.out) hb); have n1_ := Aside0.mk (below_step (by repeat (first | (with_reducible first | exact HB.out | apply below_alloc | apply pw_below_drewN | apply below_drew1 | refine below_set ?_ GE229.out) | exact HB.out)) hb); clear BK229; clear HB; have BK229 := n0_; have HB := n1_; clear n0_ n1_; (try clear hb); (try clear hb2); (try clear hk); (try clear hi)))
      go_meet
      case rel => exact ⟨_, (true), (by first | rfl | (simp; done) | (simp [*]; done)), H', ⟨by first | omega | exact Nat.le_refl _⟩, ⟨by (with_reducible repeat (first | refine blk_drewN ?_ _ | refine blk_drew ?_ | refine blk_alloc ?_ _)); exact BK229.out⟩, ⟨by repeat (first | (with_reducible first | exact HB.out | apply below_alloc | apply pw_below_drewN | apply below_drew1 | refine below_set ?_ GE229.out) | exact HB.out)⟩⟩
     ·rw [if_neg c14] at H
      have c14b0 : decide (a1 < 0) = false := decide_eq_false c14
      clear c14
      by_cases c19 : a2 < a1
      ·rw [if_pos c19] at H
       have c19b0 : decide (a2 < a1) = true := decide_eq_true c19
       clear c19
       have H' := Aside0.mk H
       clear H
       have hcz20_0 : w9.cell? ⟨gb229, 0, none⟩ = some (.slice A0_0 l0_0.length c0_0) := (blk_cell BK229.out 0).trans rfl
       have hfz20_0 := blk_frozen BK229.out 0
       go_wp2_with (first | ((with_reducible refine gate_callee (f := 21) rfl ?_); refine goesL_ (some 31) rfl rfl Try.func21 (by kernel_rfl) rfl #[.agg #[.slice A0_0 l0_0.length c0_0]] rfl (by (try simp only [List.map_toArray, List.map_cons, List.map_nil]); first | done | rfl | (simp only [List.length_drop, List.length_take]; rfl)) ?_; (with_reducible refine (crossbarref26_Few.calls _ _ l0_0 true _ ?side1 ?side2 A10.out).mono ?_); (case side1 => repeat (first | exact (Kd.C_below HR0_0.out HB.out) | (with_reducible refine Kd.C_alloc ?_ _) | (with_reducible refine Kd.C_drewN ?_ _) | (with_reducible refine Kd.C_drew ?_))); (case side2 => exact HC0_0.out); rintro e w21 ⟨rfl, hb⟩; refine ⟨_, rfl, ?_⟩; have n0_ := Aside0.mk (blk_below (g := gb229) (o := .cells #[.slice A0_0 l0_0.length c0_0] 24 (0, 0)) (by (with_reducible repeat (first | refine blk_drewN ?_ _ | refine blk_drew ?_ | refine blk_alloc ?_ _)); exact BK229.out) hb); have n1_ := Aside0.mk (below_step (by repeat (first | (with_reducible first | exact HB.out | apply below_alloc | apply pw_below_drewN | apply below_drew1 | refine below_set ?_ GE229.out) | exact HB.out)) hb); clear BK229; clear HB; have BK229 := n0_; have HB := n1_; clear n0_ n1_; (try clear hb); (try clear hb2); (try clear hk); (try clear hi); have hcz22_0 : w21.cell? ⟨gb229, 0, none⟩ = some (.slice A0_0 l0_0.length c0_0) := (blk_cell BK229.out 0).trans rfl; have hfz22_0 := blk_frozen BK229.out 0) | (go_at_call 26; (with_reducible refine (tariff_Check.calls k _ _ l0_0 t232 _ ?side1 ?side2 A12.out).mono ?_); (case side1 => repeat (first | exact (Kd.C_below HR0_0.out HB.out) | (with_reducible refine Kd.C_alloc ?_ _) | (with_reducible refine Kd.C_drewN ?_ _) | (with_reducible refine Kd.C_drew ?_))); (case side2 => exact HC0_0.out); rintro e w23 ⟨rfl, hb⟩; have n0_ := Aside0.mk (blk_below (g := gb229) (o := .cells #[.slice A0_0 l0_0.length c0_0] 24 (0, 0)) (by (with_reducible repeat (first | refine blk_drewN ?_ _ | refine blk_drew ?_ | refine blk_alloc ?_ _)); exact BK229.out) hb); have n1_ := Aside0.mk (below_step (by repeat (first | (with_reducible first | exact HB.out | apply below_alloc | apply pw_below_drewN | apply below_drew1 | refine below_set ?_ GE229.out) | exact HB.out)) hb); clear BK229; clear HB; have BK229 := n0_; have HB := n1_; clear n0_ n1_; (try clear hb); (try clear hb2); (try clear hk); (try clear hi)))
       go_meet
       case rel => exact ⟨_, (true), (by first | rfl | (simp; done) | (simp [*]; done)), H', ⟨by first | omega | exact Nat.le_refl _⟩, ⟨by (with_reducible repeat (first | refine blk_drewN ?_ _ | refine blk_drew ?_ | refine blk_alloc ?_ _)); exact BK229.out⟩, ⟨by repeat (first | (with_reducible first | exact HB.out | apply below_alloc | apply pw_below_drewN | apply below_drew1 | refine below_set ?_ GE229.out) | exact HB.out)⟩⟩
      ·rw [if_neg c19] at H
       have c19b0 : decide (a2 < a1) = false := decide_eq_false c19
       clear c19
       have H' := Aside0.mk H
       clear H
       have hcz24_0 : w9.cell? ⟨gb229, 0, none⟩ = some (.slice A0_0 l0_0.length c0_0) := (blk_cell BK229.out 0).trans rfl
       have hfz24_0 := blk_frozen BK229.out 0
       go_wp2_with (first | ((with_reducible refine gate_callee (f := 21) rfl ?_); refine goesL_ (some 31) rfl rfl Try.func21 (by kernel_rfl) rfl #[.agg #[.slice A0_0 l0_0.length c0_0]] rfl (by (try simp only [List.map_toArray, List.map_cons, List.map_nil]); first | done | rfl | (simp only [List.length_drop, List.length_take]; rfl)) ?_; (with_reducible refine (crossbarref26_Few.calls _ _ l0_0 true _ ?side1 ?side2 A10.out).mono ?_); (case side1 => repeat (first | exact (Kd.C_below HR0_0.out HB.out) | (with_reducible refine Kd.C_alloc ?_ _) | (with_reducible refine Kd.C_drewN ?_ _) | (with_reducible refine Kd.C_drew ?_))); (case side2 => exact HC0_0.out); rintro e w25 ⟨rfl, hb⟩; refine ⟨_, rfl, ?_⟩; have n0_ := Aside0.mk (blk_below (g := gb229) (o := .cells #[.slice A0_0 l0_0.length c0_0] 24 (0, 0)) (by (with_reducible repeat (first | refine blk_drewN ?_ _ | refine blk_drew ?_ | refine blk_alloc ?_ _)); exact BK229.out) hb); have n1_ := Aside0.mk (below_step (by repeat (first | (with_reducible first | exact HB.out | apply below_alloc | apply pw_below_drewN | apply below_drew1 | refine below_set ?_ GE229.out) | exact HB.out)) hb); clear BK229; clear HB; have BK229 := n0_; have HB := n1_; clear n0_ n1_; (try clear hb); (try clear hb2); (try clear hk); (try clear hi); have hcz26_0 : w25.cell? ⟨gb229, 0, none⟩ = some (.slice A0_0 l0_0.length c0_0) := (blk_cell BK229.out 0).trans rfl; have hfz26_0 := blk_frozen BK229.out 0) | (go_at_call 26; (with_reducible refine (tariff_Check.calls k _ _ l0_0 t232 _ ?side1 ?side2 A12.out).mono ?_); (case side1 => repeat (first | exact (Kd.C_below HR0_0.out HB.out) | (with_reducible refine Kd.C_alloc ?_ _) | (with_reducible refine Kd.C_drewN ?_ _) | (with_reducible refine Kd.C_drew ?_))); (case side2 => exact HC0_0.out); rintro e w27 ⟨rfl, hb⟩; have n0_ := Aside0.mk (blk_below (g := gb229) (o := .cells #[.slice A0_0 l0_0.length c0_0] 24 (0, 0)) (by (with_reducible repeat (first | refine blk_drewN ?_ _ | refine blk_drew ?_ | refine blk_alloc ?_ _)); exact BK229.out) hb); have n1_ := Aside0.mk (below_step (by repeat (first | (with_reducible first | exact HB.out | apply below_alloc | apply pw_below_drewN | apply below_drew1 | refine below_set ?_ GE229.out) | exact HB.out)) hb); clear BK229; clear HB; have BK229 := n0_; have HB := n1_; clear n0_ n1_; (try clear hb); (try clear hb2); (try clear hk); (try clear hi)))
       go_meet
       case rel => exact ⟨_, (decide (a2 > (wrap64 (1099511627776 - (wrap64 ((wrap64 (a3)) * 86400)))))), (by first | rfl | (simp; done) | (simp [*]; done)), H', ⟨by first | omega | exact Nat.le_refl _⟩, ⟨by (with_reducible repeat (first | refine blk_drewN ?_ _ | refine blk_drew ?_ | refine blk_alloc ?_ _)); exact BK229.out⟩, ⟨by repeat (first | (with_reducible first | exact HB.out | apply below_alloc | apply pw_below_drewN | apply below_drew1 | refine below_set ?_ GE229.out) | exact HB.out)⟩⟩
    ·rw [if_neg c13] at H
     have c13b0 : (t232 == 0) = false := beq_eq_false_iff_ne.mpr c13
     have c13b1 : (t232 != 0) = true := bne_iff_ne.mpr c13
     (first | rw [c13b0] | (simp only [i64_w, i32_w]; rw [c13b0]) | skip)
     have H' := Aside0.mk H
     clear H
     have hcz28_0 : w9.cell? ⟨gb229, 0, none⟩ = some (.slice A0_0 l0_0.length c0_0) := (blk_cell BK229.out 0).trans rfl
     have hfz28_0 := blk_frozen BK229.out 0
     go_wp2_with (first | ((with_reducible refine gate_callee (f := 21) rfl ?_); refine goesL_ (some 31) rfl rfl Try.func21 (by kernel_rfl) rfl #[.agg #[.slice A0_0 l0_0.length c0_0]] rfl (by (try simp only [List.map_toArray, List.map_cons, List.map_nil]); first | done | rfl | (simp only [List.length_drop, List.length_take]; rfl)) ?_; (with_reducible refine (crossbarref26_Few.calls _ _ l0_0 true _ ?side1 ?side2 A10.out).mono ?_); (case side1 => repeat (first | exact (Kd.C_below HR0_0.out HB.out) | (with_reducible refine Kd.C_alloc ?_ _) | (with_reducible refine Kd.C_drewN ?_ _) | (with_reducible refine Kd.C_drew ?_))); (case side2 => exact HC0_0.out); rintro e w29 ⟨rfl, hb⟩; refine ⟨_, rfl, ?_⟩; have n0_ := Aside0.mk (blk_below (g := gb229) (o := .cells #[.slice A0_0 l0_0.length c0_0] 24 (0, 0)) (by (with_reducible repeat (first | refine blk_drewN ?_ _ | refine blk_drew ?_ | refine blk_alloc ?_ _)); exact BK229.out) hb); have n1_ := Aside0.mk (below_step (by repeat (first | (with_reducible first | exact HB.out | apply below_alloc | apply pw_below_drewN | apply below_drew1 | refine below_set ?_ GE229.out) | exact HB.out)) hb); clear BK229; clear HB; have BK229 := n0_; have HB := n1_; clear n0_ n1_; (try clear hb); (try clear hb2); (try clear hk); (try clear hi); have hcz30_0 : w29.cell? ⟨gb229, 0, none⟩ = some (.slice A0_0 l0_0.length c0_0) := (blk_cell BK229.out 0).trans rfl; have hfz30_0 := blk_frozen BK229.out 0) | (go_at_call 26; (with_reducible refine (tariff_Check.calls k _ _ l0_0 t232 _ ?side1 ?side2 A12.out).mono ?_); (case side1 => repeat (first | exact (Kd.C_below HR0_0.out HB.out) | (with_reducible refine Kd.C_alloc ?_ _) | (with_reducible refine Kd.C_drewN ?_ _) | (with_reducible refine Kd.C_drew ?_))); (case side2 => exact HC0_0.out); rintro e w31 ⟨rfl, hb⟩; have n0_ := Aside0.mk (blk_below (g := gb229) (o := .cells #[.slice A0_0 l0_0.length c0_0] 24 (0, 0)) (by (with_reducible repeat (first | refine blk_drewN ?_ _ | refine blk_drew ?_ | refine blk_alloc ?_ _)); exact BK229.out) hb); have n1_ := Aside0.mk (below_step (by repeat (first | (with_reducible first | exact HB.out | apply below_alloc | apply pw_below_drewN | apply below_drew1 | refine below_set ?_ GE229.out) | exact HB.out)) hb); clear BK229; clear HB; have BK229 := n0_; have HB := n1_; clear n0_ n1_; (try clear hb); (try clear hb2); (try clear hk); (try clear hi)))
     go_meet
     case rel => exact ⟨_, (true), (by first | rfl | (simp; done) | (simp [*]; done)), H', ⟨by first | omega | exact Nat.le_refl _⟩, ⟨by (with_reducible repeat (first | refine blk_drewN ?_ _ | refine blk_drew ?_ | refine blk_alloc ?_ _)); exact BK229.out⟩, ⟨by repeat (first | (with_reducible first | exact HB.out | apply below_alloc | apply pw_below_drewN | apply below_drew1 | refine below_set ?_ GE229.out) | exact HB.out)⟩⟩
   ·replace c11 := Bool.eq_false_iff.mpr c11
    subst c11
    have H1 : (crossbarlaw26_TariffPeriodic.j0 k a1 a2 (wrap64 ((wrap64 (a3)) * 86400)) true l0_0) = some r := by rw [if_neg (show ¬ (false = true) by decide)] at H; exact H
    clear H
    have H := H1
    clear H1
    have H' := Aside0.mk H
    clear H
    have hcz32_0 : w9.cell? ⟨gb229, 0, none⟩ = some (.slice A0_0 l0_0.length c0_0) := (blk_cell BK229.out 0).trans rfl
    have hfz32_0 := blk_frozen BK229.out 0
    go_wp2_with (first | ((with_reducible refine gate_callee (f := 21) rfl ?_); refine goesL_ (some 31) rfl rfl Try.func21 (by kernel_rfl) rfl #[.agg #[.slice A0_0 l0_0.length c0_0]] rfl (by (try simp only [List.map_toArray, List.map_cons, List.map_nil]); first | done | rfl | (simp only [List.length_drop, List.length_take]; rfl)) ?_; (with_reducible refine (crossbarref26_Few.calls _ _ l0_0 false _ ?side1 ?side2 A10.out).mono ?_); (case side1 => repeat (first | exact (Kd.C_below HR0_0.out HB.out) | (with_reducible refine Kd.C_alloc ?_ _) | (with_reducible refine Kd.C_drewN ?_ _) | (with_reducible refine Kd.C_drew ?_))); (case side2 => exact HC0_0.out); rintro e w33 ⟨rfl, hb⟩; refine ⟨_, rfl, ?_⟩; have n0_ := Aside0.mk (blk_below (g := gb229) (o := .cells #[.slice A0_0 l0_0.length c0_0] 24 (0, 0)) (by (with_reducible repeat (first | refine blk_drewN ?_ _ | refine blk_drew ?_ | refine blk_alloc ?_ _)); exact BK229.out) hb); have n1_ := Aside0.mk (below_step (by repeat (first | (with_reducible first | exact HB.out | apply below_alloc | apply pw_below_drewN | apply below_drew1 | refine below_set ?_ GE229.out) | exact HB.out)) hb); clear BK229; clear HB; have BK229 := n0_; have HB := n1_; clear n0_ n1_; (try clear hb); (try clear hb2); (try clear hk); (try clear hi)))
    go_meet
    case rel => exact ⟨_, (true), (by first | rfl | (simp; done) | (simp [*]; done)), H', ⟨by first | omega | exact Nat.le_refl _⟩, ⟨by (with_reducible repeat (first | refine blk_drewN ?_ _ | refine blk_drew ?_ | refine blk_alloc ?_ _)); exact BK229.out⟩, ⟨by repeat (first | (with_reducible first | exact HB.out | apply below_alloc | apply pw_below_drewN | apply below_drew1 | refine below_set ?_ GE229.out) | exact HB.out)⟩⟩
  case rest =>
   clear HC7
   try clear c1
   try clear c2
   try clear p2
   try clear c6
   try clear p6
   try clear c11
   try clear c13
   try clear c13b0
   try clear c13b1
   try clear c14
   try clear c14b0
   try clear c19
   try clear c19b0
   try clear c20
   try clear c21
   try clear hcz15_0
   try clear hcz17_0
   try clear hcz20_0
   try clear hcz22_0
   try clear hcz24_0
   try clear hcz26_0
   try clear hcz28_0
   try clear hcz30_0
   try clear hcz32_0
   try clear hfz15_0
   try clear hfz17_0
   try clear hfz20_0
   try clear hfz22_0
   try clear hfz24_0
   try clear hfz26_0
   try clear hfz28_0
   try clear hfz30_0
   try clear hfz32_0
   obtain ⟨kq, x52_6, rfl, HA, HJ6, BK229, HB⟩ := hcut
   cases kq with
   | zero => exact absurd HA.out (by simp [crossbarlaw26_TariffPeriodic.j0])
   | succ kj6 =>
    have H := HA.out
    clear HA
    simp only [crossbarlaw26_TariffPeriodic.j0] at H
    by_cases c34 : x52_6 = true
    ·subst c34
     have H1 : (some true) = some r := by rw [if_pos rfl] at H; exact H
     clear H
     have H := H1
     clear H1
     obtain rfl := Option.some.inj H
     go_wp2
     go_ret
     exact ⟨by first | rfl | (simp [errW_none, errW_some] <;> rfl) | (simp [*, errW_none, errW_some] <;> rfl), by repeat (first | (with_reducible first | exact HB.out | apply below_alloc | apply pw_below_drewN | apply below_drew1 | refine below_set ?_ GE229.out) | exact HB.out)⟩
    ·replace c34 := Bool.eq_false_iff.mpr c34
     subst c34
     have H1 : ((tariff_Rate.f kj6 l0_0 a1).bind fun bt233 => ((tariff_Rate.f kj6 l0_0 (wrap64 (a1 + (wrap64 ((wrap64 (a3)) * 86400))))).bind fun bt235 => ((tariff_Price.f kj6 l0_0 a1 a2).bind fun bt237 => ((tariff_Price.f kj6 l0_0 (wrap64 (a1 + (wrap64 ((wrap64 (a3)) * 86400)))) (wrap64 (a2 + (wrap64 ((wrap64 (a3)) * 86400))))).bind fun bt239 => ((tariff_Change.f kj6 l0_0 a1).bind fun bt241 => ((tariff_Change.f kj6 l0_0 (wrap64 (a1 + (wrap64 ((wrap64 (a3)) * 86400))))).bind fun bt244 => (if bt233.2 = 0 then (if bt235.2 = 0 then (if bt237.2 = 0 then (if bt239.2 = 0 then (if bt241.2.2 = 0 then (if bt244.2.2 = 0 then (if bt233.1 = bt235.1 then (if bt237.1 = bt239.1 then (if (bt241.2.1 == bt244.2.1) = true then (if bt241.2.1 = true then (some (bt244.1 == (wrap64 (bt241.1 + (wrap64 ((wrap64 (a3)) * 86400)))))) else (some true)) else (some false)) else (some false)) else (some false)) else (some false)) else (some false)) else (some false)) else (some false)) else (some false)) else (some false)))))))) = some r := by rw [if_neg (show ¬ (false = true) by decide)] at H; exact H
     clear H
     have H := H1
     clear H1
     replace H := Option.bind_eq_some_iff.mp H
     obtain ⟨⟨t233, t234⟩, A350, H⟩ := H
     replace H : ((tariff_Rate.f kj6 l0_0 (wrap64 (a1 + (wrap64 ((wrap64 (a3)) * 86400))))).bind fun bt235 => ((tariff_Price.f kj6 l0_0 a1 a2).bind fun bt237 => ((tariff_Price.f kj6 l0_0 (wrap64 (a1 + (wrap64 ((wrap64 (a3)) * 86400)))) (wrap64 (a2 + (wrap64 ((wrap64 (a3)) * 86400))))).bind fun bt239 => ((tariff_Change.f kj6 l0_0 a1).bind fun bt241 => ((tariff_Change.f kj6 l0_0 (wrap64 (a1 + (wrap64 ((wrap64 (a3)) * 86400))))).bind fun bt244 => (if t234 = 0 then (if bt235.2 = 0 then (if bt237.2 = 0 then (if bt239.2 = 0 then (if bt241.2.2 = 0 then (if bt244.2.2 = 0 then (if t233 = bt235.1 then (if bt237.1 = bt239.1 then (if (bt241.2.1 == bt244.2.1) = true then (if bt241.2.1 = true then (some (bt244.1 == (wrap64 (bt241.1 + (wrap64 ((wrap64 (a3)) * 86400)))))) else (some true)) else (some false)) else (some false)) else (some false)) else (some false)) else (some false)) else (some false)) else (some false)) else (some false)) else (some false))))))) = some r := H
     have A35 := Aside0.mk A350
     clear A350
     replace H := Option.bind_eq_some_iff.mp H
     obtain ⟨⟨t235, t236⟩, A360, H⟩ := H
     replace H : ((tariff_Price.f kj6 l0_0 a1 a2).bind fun bt237 => ((tariff_Price.f kj6 l0_0 (wrap64 (a1 + (wrap64 ((wrap64 (a3)) * 86400)))) (wrap64 (a2 + (wrap64 ((wrap64 (a3)) * 86400))))).bind fun bt239 => ((tariff_Change.f kj6 l0_0 a1).bind fun bt241 => ((tariff_Change.f kj6 l0_0 (wrap64 (a1 + (wrap64 ((wrap64 (a3)) * 86400))))).bind fun bt244 => (if t234 = 0 then (if t236 = 0 then (if bt237.2 = 0 then (if bt239.2 = 0 then (if bt241.2.2 = 0 then (if bt244.2.2 = 0 then (if t233 = t235 then (if bt237.1 = bt239.1 then (if (bt241.2.1 == bt244.2.1) = true then (if bt241.2.1 = true then (some (bt244.1 == (wrap64 (bt241.1 + (wrap64 ((wrap64 (a3)) * 86400)))))) else (some true)) else (some false)) else (some false)) else (some false)) else (some false)) else (some false)) else (some false)) else (some false)) else (some false)) else (some false)))))) = some r := H
     have A36 := Aside0.mk A360
     clear A360
     replace H := Option.bind_eq_some_iff.mp H
     obtain ⟨⟨t237, t238⟩, A370, H⟩ := H
     replace H : ((tariff_Price.f kj6 l0_0 (wrap64 (a1 + (wrap64 ((wrap64 (a3)) * 86400)))) (wrap64 (a2 + (wrap64 ((wrap64 (a3)) * 86400))))).bind fun bt239 => ((tariff_Change.f kj6 l0_0 a1).bind fun bt241 => ((tariff_Change.f kj6 l0_0 (wrap64 (a1 + (wrap64 ((wrap64 (a3)) * 86400))))).bind fun bt244 => (if t234 = 0 then (if t236 = 0 then (if t238 = 0 then (if bt239.2 = 0 then (if bt241.2.2 = 0 then (if bt244.2.2 = 0 then (if t233 = t235 then (if t237 = bt239.1 then (if (bt241.2.1 == bt244.2.1) = true then (if bt241.2.1 = true then (some (bt244.1 == (wrap64 (bt241.1 + (wrap64 ((wrap64 (a3)) * 86400)))))) else (some true)) else (some false)) else (some false)) else (some false)) else (some false)) else (some false)) else (some false)) else (some false)) else (some false)) else (some false))))) = some r := H
     have A37 := Aside0.mk A370
     clear A370
     replace H := Option.bind_eq_some_iff.mp H
     obtain ⟨⟨t239, t240⟩, A380, H⟩ := H
     replace H : ((tariff_Change.f kj6 l0_0 a1).bind fun bt241 => ((tariff_Change.f kj6 l0_0 (wrap64 (a1 + (wrap64 ((wrap64 (a3)) * 86400))))).bind fun bt244 => (if t234 = 0 then (if t236 = 0 then (if t238 = 0 then (if t240 = 0 then (if bt241.2.2 = 0 then (if bt244.2.2 = 0 then (if t233 = t235 then (if t237 = t239 then (if (bt241.2.1 == bt244.2.1) = true then (if bt241.2.1 = true then (some (bt244.1 == (wrap64 (bt241.1 + (wrap64 ((wrap64 (a3)) * 86400)))))) else (some true)) else (some false)) else (some false)) else (some false)) else (some false)) else (some false)) else (some false)) else (some false)) else (some false)) else (some false)))) = some r := H
     have A38 := Aside0.mk A380
     clear A380
     replace H := Option.bind_eq_some_iff.mp H
     obtain ⟨⟨t241, t242, t243⟩, A390, H⟩ := H
     replace H : ((tariff_Change.f kj6 l0_0 (wrap64 (a1 + (wrap64 ((wrap64 (a3)) * 86400))))).bind fun bt244 => (if t234 = 0 then (if t236 = 0 then (if t238 = 0 then (if t240 = 0 then (if t243 = 0 then (if bt244.2.2 = 0 then (if t233 = t235 then (if t237 = t239 then (if (t242 == bt244.2.1) = true then (if t242 = true then (some (bt244.1 == (wrap64 (t241 + (wrap64 ((wrap64 (a3)) * 86400)))))) else (some true)) else (some false)) else (some false)) else (some false)) else (some false)) else (some false)) else (some false)) else (some false)) else (some false)) else (some false))) = some r := H
     have A39 := Aside0.mk A390
     clear A390
     replace H := Option.bind_eq_some_iff.mp H
     obtain ⟨⟨t244, t245, t246⟩, A400, H⟩ := H
     replace H : (if t234 = 0 then (if t236 = 0 then (if t238 = 0 then (if t240 = 0 then (if t243 = 0 then (if t246 = 0 then (if t233 = t235 then (if t237 = t239 then (if (t242 == t245) = true then (if t242 = true then (some (t244 == (wrap64 (t241 + (wrap64 ((wrap64 (a3)) * 86400)))))) else (some true)) else (some false)) else (some false)) else (some false)) else (some false)) else (some false)) else (some false)) else (some false)) else (some false)) else (some false)) = some r := H
     have A40 := Aside0.mk A400
     clear A400
     by_cases c41 : t234 = 0
     ·rw [if_pos c41] at H
      have c41b0 : (t234 == 0) = true := beq_iff_eq.mpr c41
      have c41b1 : (t234 != 0) = false := bne_eq_false_iff_eq.mpr c41
      clear c41
      by_cases c42 : t236 = 0
      ·rw [if_pos c42] at H
       have c42b0 : (t236 == 0) = true := beq_iff_eq.mpr c42
       have c42b1 : (t236 != 0) = false := bne_eq_false_iff_eq.mpr c42
       clear c42
       by_cases c43 : t238 = 0
       ·rw [if_pos c43] at H
        have c43b0 : (t238 == 0) = true := beq_iff_eq.mpr c43
        have c43b1 : (t238 != 0) = false := bne_eq_false_iff_eq.mpr c43
        clear c43
        by_cases c44 : t240 = 0
        ·rw [if_pos c44] at H
         have c44b0 : (t240 == 0) = true := beq_iff_eq.mpr c44
         have c44b1 : (t240 != 0) = false := bne_eq_false_iff_eq.mpr c44
         clear c44
         by_cases c45 : t243 = 0
         ·rw [if_pos c45] at H
          have c45b0 : (t243 == 0) = true := beq_iff_eq.mpr c45
          have c45b1 : (t243 != 0) = false := bne_eq_false_iff_eq.mpr c45
          clear c45
          by_cases c46 : t246 = 0
          ·rw [if_pos c46] at H
           have c46b0 : (t246 == 0) = true := beq_iff_eq.mpr c46
           have c46b1 : (t246 != 0) = false := bne_eq_false_iff_eq.mpr c46
           clear c46
           by_cases c47 : t233 = t235
           ·rw [if_pos c47] at H
            have c47b0 : (t233 == t235) = true := beq_iff_eq.mpr c47
            have c47b1 : (t233 != t235) = false := bne_eq_false_iff_eq.mpr c47
            clear c47
            by_cases c48 : t237 = t239
            ·rw [if_pos c48] at H
             have c48b0 : (t237 == t239) = true := beq_iff_eq.mpr c48
             have c48b1 : (t237 != t239) = false := bne_eq_false_iff_eq.mpr c48
             clear c48
             by_cases c49 : (t242 == t245) = true
             ·rw [if_pos c49] at H
              have c49b0 : (t242 == t245) = true := c49
              (try (have c49b1 : decide (t242 = t245) = true := by simpa using c49))
              (try (have c49b2 : (t242 == t245) = true := by simpa using c49))
              clear c49
              by_cases c50 : t242 = true
              ·subst c50
               have H1 : (some (t244 == (wrap64 (t241 + (wrap64 ((wrap64 (a3)) * 86400)))))) = some r := by rw [if_pos rfl] at H; exact H
               clear H
               have H := H1
               clear H1
               obtain rfl := Option.some.inj H
               have hcz51_0 : wc.cell? ⟨gb229, 0, none⟩ = some (.slice A0_0 l0_0.length c0_0) := (blk_cell BK229.out 0).trans rfl
               have hfz51_0 := blk_frozen BK229.out 0
               go_wp2_with (first | ((with_reducible refine gate_callee (f := 22) rfl ?_); refine goesL_ (some 56) rfl rfl Try.func22 (by kernel_rfl) rfl #[.agg #[.slice A0_0 l0_0.length c0_0], .int .i64 a1] rfl (by (try simp only [List.map_toArray, List.map_cons, List.map_nil]); first | done | rfl | (simp only [List.length_drop, List.length_take]; rfl)) ?_; (with_reducible refine (tariff_Rate.calls kj6 _ _ l0_0 a1 t233 t234 _ ?side1 ?side2 A35.out).mono ?_); (case side1 => repeat (first | exact (Kd.C_below HR0_0.out HB.out) | (with_reducible refine Kd.C_alloc ?_ _) | (with_reducible refine Kd.C_drewN ?_ _) | (with_reducible refine Kd.C_drew ?_))); (case side2 => exact HC0_0.out); rintro e w52 ⟨rfl, hb⟩; refine ⟨_, rfl, ?_⟩; have n0_ := Aside0.mk (blk_below (g := gb229) (o := .cells #[.slice A0_0 l0_0.length c0_0] 24 (0, 0)) (by (with_reducible repeat (first | refine blk_drewN ?_ _ | refine blk_drew ?_ | refine blk_alloc ?_ _)); exact BK229.out) hb); have n1_ := Aside0.mk (below_step (by repeat (first | (with_reducible first | exact HB.out | apply below_alloc | apply pw_below_drewN | apply below_drew1 | refine below_set ?_ GE229.out) | exact HB.out)) hb); clear BK229; clear HB; have BK229 := n0_; have HB := n1_; clear n0_ n1_; (try clear hb); (try clear hb2); (try clear hk); (try clear hi); have hcz53_0 : w52.cell? ⟨gb229, 0, none⟩ = some (.slice A0_0 l0_0.length c0_0) := (blk_cell BK229.out 0).trans rfl; have hfz53_0 := blk_frozen BK229.out 0) | ((with_reducible refine gate_callee (f := 22) rfl ?_); refine goesL_ (some 64) rfl rfl Try.func22 (by kernel_rfl) rfl #[.agg #[.slice A0_0 l0_0.length c0_0], .int .i64 (wrap64 (a1 + (wrap64 ((wrap64 (a3)) * 86400))))] rfl (by (try simp only [List.map_toArray, List.map_cons, List.map_nil]); first | done | rfl | (simp only [List.length_drop, List.length_take]; rfl)) ?_; (with_reducible refine (tariff_Rate.calls kj6 _ _ l0_0 (wrap64 (a1 + (wrap64 ((wrap64 (a3)) * 86400)))) t235 t236 _ ?side1 ?side2 A36.out).mono ?_); (case side1 => repeat (first | exact (Kd.C_below HR0_0.out HB.out) | (with_reducible refine Kd.C_alloc ?_ _) | (with_reducible refine Kd.C_drewN ?_ _) | (with_reducible refine Kd.C_drew ?_))); (case side2 => exact HC0_0.out); rintro e w54 ⟨rfl, hb⟩; refine ⟨_, rfl, ?_⟩; have n0_ := Aside0.mk (blk_below (g := gb229) (o := .cells #[.slice A0_0 l0_0.length c0_0] 24 (0, 0)) (by (with_reducible repeat (first | refine blk_drewN ?_ _ | refine blk_drew ?_ | refine blk_alloc ?_ _)); exact BK229.out) hb); have n1_ := Aside0.mk (below_step (by repeat (first | (with_reducible first | exact HB.out | apply below_alloc | apply pw_below_drewN | apply below_drew1 | refine below_set ?_ GE229.out) | exact HB.out)) hb); clear BK229; clear HB; have BK229 := n0_; have HB := n1_; clear n0_ n1_; (try clear hb); (try clear hb2); (try clear hk); (try clear hi); have hcz55_0 : w54.cell? ⟨gb229, 0, none⟩ = some (.slice A0_0 l0_0.length c0_0) := (blk_cell BK229.out 0).trans rfl; have hfz55_0 := blk_frozen BK229.out 0) | ((with_reducible refine gate_callee (f := 28) rfl ?_); refine goesL_ (some 71) rfl rfl Try.func28 (by kernel_rfl) rfl #[.agg #[.slice A0_0 l0_0.length c0_0], .int .i64 a1, .int .i64 a2] rfl (by (try simp only [List.map_toArray, List.map_cons, List.map_nil]); first | done | rfl | (simp only [List.length_drop, List.length_take]; rfl)) ?_; (with_reducible refine (tariff_Price.calls kj6 _ _ l0_0 a1 a2 t237 t238 _ ?side1 ?side2 A37.out).mono ?_); (case side1 => repeat (first | exact (Kd.C_below HR0_0.out HB.out) | (with_reducible refine Kd.C_alloc ?_ _) | (with_reducible refine Kd.C_drewN ?_ _) | (with_reducible refine Kd.C_drew ?_))); (case side2 => exact HC0_0.out); rintro e w56 ⟨rfl, hb⟩; refine ⟨_, rfl, ?_⟩; have n0_ := Aside0.mk (blk_below (g := gb229) (o := .cells #[.slice A0_0 l0_0.length c0_0] 24 (0, 0)) (by (with_reducible repeat (first | refine blk_drewN ?_ _ | refine blk_drew ?_ | refine blk_alloc ?_ _)); exact BK229.out) hb); have n1_ := Aside0.mk (below_step (by repeat (first | (with_reducible first | exact HB.out | apply below_alloc | apply pw_below_drewN | apply below_drew1 | refine below_set ?_ GE229.out) | exact HB.out)) hb); clear BK229; clear HB; have BK229 := n0_; have HB := n1_; clear n0_ n1_; (try clear hb); (try clear hb2); (try clear hk); (try clear hi); have hcz57_0 : w56.cell? ⟨gb229, 0, none⟩ = some (.slice A0_0 l0_0.length c0_0) := (blk_cell BK229.out 0).trans rfl; have hfz57_0 := blk_frozen BK229.out 0) | ((with_reducible refine gate_callee (f := 28) rfl ?_); refine goesL_ (some 82) rfl rfl Try.func28 (by kernel_rfl) rfl #[.agg #[.slice A0_0 l0_0.length c0_0], .int .i64 (wrap64 (a1 + (wrap64 ((wrap64 (a3)) * 86400)))), .int .i64 (wrap64 (a2 + (wrap64 ((wrap64 (a3)) * 86400))))] rfl (by (try simp only [List.map_toArray, List.map_cons, List.map_nil]); first | done | rfl | (simp only [List.length_drop, List.length_take]; rfl)) ?_; (with_reducible refine (tariff_Price.calls kj6 _ _ l0_0 (wrap64 (a1 + (wrap64 ((wrap64 (a3)) * 86400)))) (wrap64 (a2 + (wrap64 ((wrap64 (a3)) * 86400)))) t239 t240 _ ?side1 ?side2 A38.out).mono ?_); (case side1 => repeat (first | exact (Kd.C_below HR0_0.out HB.out) | (with_reducible refine Kd.C_alloc ?_ _) | (with_reducible refine Kd.C_drewN ?_ _) | (with_reducible refine Kd.C_drew ?_))); (case side2 => exact HC0_0.out); rintro e w58 ⟨rfl, hb⟩; refine ⟨_, rfl, ?_⟩; have n0_ := Aside0.mk (blk_below (g := gb229) (o := .cells #[.slice A0_0 l0_0.length c0_0] 24 (0, 0)) (by (with_reducible repeat (first | refine blk_drewN ?_ _ | refine blk_drew ?_ | refine blk_alloc ?_ _)); exact BK229.out) hb); have n1_ := Aside0.mk (below_step (by repeat (first | (with_reducible first | exact HB.out | apply below_alloc | apply pw_below_drewN | apply below_drew1 | refine below_set ?_ GE229.out) | exact HB.out)) hb); clear BK229; clear HB; have BK229 := n0_; have HB := n1_; clear n0_ n1_; (try clear hb); (try clear hb2); (try clear hk); (try clear hi); have hcz59_0 : w58.cell? ⟨gb229, 0, none⟩ = some (.slice A0_0 l0_0.length c0_0) := (blk_cell BK229.out 0).trans rfl; have hfz59_0 := blk_frozen BK229.out 0) | ((with_reducible refine gate_callee (f := 24) rfl ?_); refine goesL_ (some 88) rfl rfl Try.func24 (by kernel_rfl) rfl #[.agg #[.slice A0_0 l0_0.length c0_0], .int .i64 a1] rfl (by (try simp only [List.map_toArray, List.map_cons, List.map_nil]); first | done | rfl | (simp only [List.length_drop, List.length_take]; rfl)) ?_; (with_reducible refine (tariff_Change.calls kj6 _ _ l0_0 a1 t241 true t243 _ ?side1 ?side2 A39.out).mono ?_); (case side1 => repeat (first | exact (Kd.C_below HR0_0.out HB.out) | (with_reducible refine Kd.C_alloc ?_ _) | (with_reducible refine Kd.C_drewN ?_ _) | (with_reducible refine Kd.C_drew ?_))); (case side2 => exact HC0_0.out); rintro e w60 ⟨rfl, hb⟩; refine ⟨_, rfl, ?_⟩; have n0_ := Aside0.mk (blk_below (g := gb229) (o := .cells #[.slice A0_0 l0_0.length c0_0] 24 (0, 0)) (by (with_reducible repeat (first | refine blk_drewN ?_ _ | refine blk_drew ?_ | refine blk_alloc ?_ _)); exact BK229.out) hb); have n1_ := Aside0.mk (below_step (by repeat (first | (with_reducible first | exact HB.out | apply below_alloc | apply pw_below_drewN | apply below_drew1 | refine below_set ?_ GE229.out) | exact HB.out)) hb); clear BK229; clear HB; have BK229 := n0_; have HB := n1_; clear n0_ n1_; (try clear hb); (try clear hb2); (try clear hk); (try clear hi); have hcz61_0 : w60.cell? ⟨gb229, 0, none⟩ = some (.slice A0_0 l0_0.length c0_0) := (blk_cell BK229.out 0).trans rfl; have hfz61_0 := blk_frozen BK229.out 0) | ((with_reducible refine gate_callee (f := 24) rfl ?_); refine goesL_ (some 97) rfl rfl Try.func24 (by kernel_rfl) rfl #[.agg #[.slice A0_0 l0_0.length c0_0], .int .i64 (wrap64 (a1 + (wrap64 ((wrap64 (a3)) * 86400))))] rfl (by (try simp only [List.map_toArray, List.map_cons, List.map_nil]); first | done | rfl | (simp only [List.length_drop, List.length_take]; rfl)) ?_; (with_reducible refine (tariff_Change.calls kj6 _ _ l0_0 (wrap64 (a1 + (wrap64 ((wrap64 (a3)) * 86400)))) t244 t245 t246 _ ?side1 ?side2 A40.out).mono ?_); (case side1 => repeat (first | exact (Kd.C_below HR0_0.out HB.out) | (with_reducible refine Kd.C_alloc ?_ _) | (with_reducible refine Kd.C_drewN ?_ _) | (with_reducible refine Kd.C_drew ?_))); (case side2 => exact HC0_0.out); rintro e w62 ⟨rfl, hb⟩; refine ⟨_, rfl, ?_⟩; have n0_ := Aside0.mk (blk_below (g := gb229) (o := .cells #[.slice A0_0 l0_0.length c0_0] 24 (0, 0)) (by (with_reducible repeat (first | refine blk_drewN ?_ _ | refine blk_drew ?_ | refine blk_alloc ?_ _)); exact BK229.out) hb); have n1_ := Aside0.mk (below_step (by repeat (first | (with_reducible first | exact HB.out | apply below_alloc | apply pw_below_drewN | apply below_drew1 | refine below_set ?_ GE229.out) | exact HB.out)) hb); clear BK229; clear HB; have BK229 := n0_; have HB := n1_; clear n0_ n1_; (try clear hb); (try clear hb2); (try clear hk); (try clear hi)))
               go_ret
               exact ⟨by first | rfl | (simp [errW_none, errW_some] <;> rfl) | (simp [*, errW_none, errW_some] <;> rfl), by repeat (first | (with_reducible first | exact HB.out | apply below_alloc | apply pw_below_drewN | apply below_drew1 | refine below_set ?_ GE229.out) | exact HB.out)⟩
              ·replace c50 := Bool.eq_false_iff.mpr c50
               subst c50
               have H1 : (some true) = some r := by rw [if_neg (show ¬ (false = true) by decide)] at H; exact H
               clear H
               have H := H1
               clear H1
               obtain rfl := Option.some.inj H
               have hcz63_0 : wc.cell? ⟨gb229, 0, none⟩ = some (.slice A0_0 l0_0.length c0_0) := (blk_cell BK229.out 0).trans rfl
               have hfz63_0 := blk_frozen BK229.out 0
               go_wp2_with (first | ((with_reducible refine gate_callee (f := 22) rfl ?_); refine goesL_ (some 56) rfl rfl Try.func22 (by kernel_rfl) rfl #[.agg #[.slice A0_0 l0_0.length c0_0], .int .i64 a1] rfl (by (try simp only [List.map_toArray, List.map_cons, List.map_nil]); first | done | rfl | (simp only [List.length_drop, List.length_take]; rfl)) ?_; (with_reducible refine (tariff_Rate.calls kj6 _ _ l0_0 a1 t233 t234 _ ?side1 ?side2 A35.out).mono ?_); (case side1 => repeat (first | exact (Kd.C_below HR0_0.out HB.out) | (with_reducible refine Kd.C_alloc ?_ _) | (with_reducible refine Kd.C_drewN ?_ _) | (with_reducible refine Kd.C_drew ?_))); (case side2 => exact HC0_0.out); rintro e w64 ⟨rfl, hb⟩; refine ⟨_, rfl, ?_⟩; have n0_ := Aside0.mk (blk_below (g := gb229) (o := .cells #[.slice A0_0 l0_0.length c0_0] 24 (0, 0)) (by (with_reducible repeat (first | refine blk_drewN ?_ _ | refine blk_drew ?_ | refine blk_alloc ?_ _)); exact BK229.out) hb); have n1_ := Aside0.mk (below_step (by repeat (first | (with_reducible first | exact HB.out | apply below_alloc | apply pw_below_drewN | apply below_drew1 | refine below_set ?_ GE229.out) | exact HB.out)) hb); clear BK229; clear HB; have BK229 := n0_; have HB := n1_; clear n0_ n1_; (try clear hb); (try clear hb2); (try clear hk); (try clear hi); have hcz65_0 : w64.cell? ⟨gb229, 0, none⟩ = some (.slice A0_0 l0_0.length c0_0) := (blk_cell BK229.out 0).trans rfl; have hfz65_0 := blk_frozen BK229.out 0) | ((with_reducible refine gate_callee (f := 22) rfl ?_); refine goesL_ (some 64) rfl rfl Try.func22 (by kernel_rfl) rfl #[.agg #[.slice A0_0 l0_0.length c0_0], .int .i64 (wrap64 (a1 + (wrap64 ((wrap64 (a3)) * 86400))))] rfl (by (try simp only [List.map_toArray, List.map_cons, List.map_nil]); first | done | rfl | (simp only [List.length_drop, List.length_take]; rfl)) ?_; (with_reducible refine (tariff_Rate.calls kj6 _ _ l0_0 (wrap64 (a1 + (wrap64 ((wrap64 (a3)) * 86400)))) t235 t236 _ ?side1 ?side2 A36.out).mono ?_); (case side1 => repeat (first | exact (Kd.C_below HR0_0.out HB.out) | (with_reducible refine Kd.C_alloc ?_ _) | (with_reducible refine Kd.C_drewN ?_ _) | (with_reducible refine Kd.C_drew ?_))); (case side2 => exact HC0_0.out); rintro e w66 ⟨rfl, hb⟩; refine ⟨_, rfl, ?_⟩; have n0_ := Aside0.mk (blk_below (g := gb229) (o := .cells #[.slice A0_0 l0_0.length c0_0] 24 (0, 0)) (by (with_reducible repeat (first | refine blk_drewN ?_ _ | refine blk_drew ?_ | refine blk_alloc ?_ _)); exact BK229.out) hb); have n1_ := Aside0.mk (below_step (by repeat (first | (with_reducible first | exact HB.out | apply below_alloc | apply pw_below_drewN | apply below_drew1 | refine below_set ?_ GE229.out) | exact HB.out)) hb); clear BK229; clear HB; have BK229 := n0_; have HB := n1_; clear n0_ n1_; (try clear hb); (try clear hb2); (try clear hk); (try clear hi); have hcz67_0 : w66.cell? ⟨gb229, 0, none⟩ = some (.slice A0_0 l0_0.length c0_0) := (blk_cell BK229.out 0).trans rfl; have hfz67_0 := blk_frozen BK229.out 0) | ((with_reducible refine gate_callee (f := 28) rfl ?_); refine goesL_ (some 71) rfl rfl Try.func28 (by kernel_rfl) rfl #[.agg #[.slice A0_0 l0_0.length c0_0], .int .i64 a1, .int .i64 a2] rfl (by (try simp only [List.map_toArray, List.map_cons, List.map_nil]); first | done | rfl | (simp only [List.length_drop, List.length_take]; rfl)) ?_; (with_reducible refine (tariff_Price.calls kj6 _ _ l0_0 a1 a2 t237 t238 _ ?side1 ?side2 A37.out).mono ?_); (case side1 => repeat (first | exact (Kd.C_below HR0_0.out HB.out) | (with_reducible refine Kd.C_alloc ?_ _) | (with_reducible refine Kd.C_drewN ?_ _) | (with_reducible refine Kd.C_drew ?_))); (case side2 => exact HC0_0.out); rintro e w68 ⟨rfl, hb⟩; refine ⟨_, rfl, ?_⟩; have n0_ := Aside0.mk (blk_below (g := gb229) (o := .cells #[.slice A0_0 l0_0.length c0_0] 24 (0, 0)) (by (with_reducible repeat (first | refine blk_drewN ?_ _ | refine blk_drew ?_ | refine blk_alloc ?_ _)); exact BK229.out) hb); have n1_ := Aside0.mk (below_step (by repeat (first | (with_reducible first | exact HB.out | apply below_alloc | apply pw_below_drewN | apply below_drew1 | refine below_set ?_ GE229.out) | exact HB.out)) hb); clear BK229; clear HB; have BK229 := n0_; have HB := n1_; clear n0_ n1_; (try clear hb); (try clear hb2); (try clear hk); (try clear hi); have hcz69_0 : w68.cell? ⟨gb229, 0, none⟩ = some (.slice A0_0 l0_0.length c0_0) := (blk_cell BK229.out 0).trans rfl; have hfz69_0 := blk_frozen BK229.out 0) | ((with_reducible refine gate_callee (f := 28) rfl ?_); refine goesL_ (some 82) rfl rfl Try.func28 (by kernel_rfl) rfl #[.agg #[.slice A0_0 l0_0.length c0_0], .int .i64 (wrap64 (a1 + (wrap64 ((wrap64 (a3)) * 86400)))), .int .i64 (wrap64 (a2 + (wrap64 ((wrap64 (a3)) * 86400))))] rfl (by (try simp only [List.map_toArray, List.map_cons, List.map_nil]); first | done | rfl | (simp only [List.length_drop, List.length_take]; rfl)) ?_; (with_reducible refine (tariff_Price.calls kj6 _ _ l0_0 (wrap64 (a1 + (wrap64 ((wrap64 (a3)) * 86400)))) (wrap64 (a2 + (wrap64 ((wrap64 (a3)) * 86400)))) t239 t240 _ ?side1 ?side2 A38.out).mono ?_); (case side1 => repeat (first | exact (Kd.C_below HR0_0.out HB.out) | (with_reducible refine Kd.C_alloc ?_ _) | (with_reducible refine Kd.C_drewN ?_ _) | (with_reducible refine Kd.C_drew ?_))); (case side2 => exact HC0_0.out); rintro e w70 ⟨rfl, hb⟩; refine ⟨_, rfl, ?_⟩; have n0_ := Aside0.mk (blk_below (g := gb229) (o := .cells #[.slice A0_0 l0_0.length c0_0] 24 (0, 0)) (by (with_reducible repeat (first | refine blk_drewN ?_ _ | refine blk_drew ?_ | refine blk_alloc ?_ _)); exact BK229.out) hb); have n1_ := Aside0.mk (below_step (by repeat (first | (with_reducible first | exact HB.out | apply below_alloc | apply pw_below_drewN | apply below_drew1 | refine below_set ?_ GE229.out) | exact HB.out)) hb); clear BK229; clear HB; have BK229 := n0_; have HB := n1_; clear n0_ n1_; (try clear hb); (try clear hb2); (try clear hk); (try clear hi); have hcz71_0 : w70.cell? ⟨gb229, 0, none⟩ = some (.slice A0_0 l0_0.length c0_0) := (blk_cell BK229.out 0).trans rfl; have hfz71_0 := blk_frozen BK229.out 0) | ((with_reducible refine gate_callee (f := 24) rfl ?_); refine goesL_ (some 88) rfl rfl Try.func24 (by kernel_rfl) rfl #[.agg #[.slice A0_0 l0_0.length c0_0], .int .i64 a1] rfl (by (try simp only [List.map_toArray, List.map_cons, List.map_nil]); first | done | rfl | (simp only [List.length_drop, List.length_take]; rfl)) ?_; (with_reducible refine (tariff_Change.calls kj6 _ _ l0_0 a1 t241 false t243 _ ?side1 ?side2 A39.out).mono ?_); (case side1 => repeat (first | exact (Kd.C_below HR0_0.out HB.out) | (with_reducible refine Kd.C_alloc ?_ _) | (with_reducible refine Kd.C_drewN ?_ _) | (with_reducible refine Kd.C_drew ?_))); (case side2 => exact HC0_0.out); rintro e w72 ⟨rfl, hb⟩; refine ⟨_, rfl, ?_⟩; have n0_ := Aside0.mk (blk_below (g := gb229) (o := .cells #[.slice A0_0 l0_0.length c0_0] 24 (0, 0)) (by (with_reducible repeat (first | refine blk_drewN ?_ _ | refine blk_drew ?_ | refine blk_alloc ?_ _)); exact BK229.out) hb); have n1_ := Aside0.mk (below_step (by repeat (first | (with_reducible first | exact HB.out | apply below_alloc | apply pw_below_drewN | apply below_drew1 | refine below_set ?_ GE229.out) | exact HB.out)) hb); clear BK229; clear HB; have BK229 := n0_; have HB := n1_; clear n0_ n1_; (try clear hb); (try clear hb2); (try clear hk); (try clear hi); have hcz73_0 : w72.cell? ⟨gb229, 0, none⟩ = some (.slice A0_0 l0_0.length c0_0) := (blk_cell BK229.out 0).trans rfl; have hfz73_0 := blk_frozen BK229.out 0) | ((with_reducible refine gate_callee (f := 24) rfl ?_); refine goesL_ (some 97) rfl rfl Try.func24 (by kernel_rfl) rfl #[.agg #[.slice A0_0 l0_0.length c0_0], .int .i64 (wrap64 (a1 + (wrap64 ((wrap64 (a3)) * 86400))))] rfl (by (try simp only [List.map_toArray, List.map_cons, List.map_nil]); first | done | rfl | (simp only [List.length_drop, List.length_take]; rfl)) ?_; (with_reducible refine (tariff_Change.calls kj6 _ _ l0_0 (wrap64 (a1 + (wrap64 ((wrap64 (a3)) * 86400)))) t244 t245 t246 _ ?side1 ?side2 A40.out).mono ?_); (case side1 => repeat (first | exact (Kd.C_below HR0_0.out HB.out) | (with_reducible refine Kd.C_alloc ?_ _) | (with_reducible refine Kd.C_drewN ?_ _) | (with_reducible refine Kd.C_drew ?_))); (case side2 => exact HC0_0.out); rintro e w74 ⟨rfl, hb⟩; refine ⟨_, rfl, ?_⟩; have n0_ := Aside0.mk (blk_below (g := gb229) (o := .cells #[.slice A0_0 l0_0.length c0_0] 24 (0, 0)) (by (with_reducible repeat (first | refine blk_drewN ?_ _ | refine blk_drew ?_ | refine blk_alloc ?_ _)); exact BK229.out) hb); have n1_ := Aside0.mk (below_step (by repeat (first | (with_reducible first | exact HB.out | apply below_alloc | apply pw_below_drewN | apply below_drew1 | refine below_set ?_ GE229.out) | exact HB.out)) hb); clear BK229; clear HB; have BK229 := n0_; have HB := n1_; clear n0_ n1_; (try clear hb); (try clear hb2); (try clear hk); (try clear hi)))
               go_ret
               exact ⟨by first | rfl | (simp [errW_none, errW_some] <;> rfl) | (simp [*, errW_none, errW_some] <;> rfl), by repeat (first | (with_reducible first | exact HB.out | apply below_alloc | apply pw_below_drewN | apply below_drew1 | refine below_set ?_ GE229.out) | exact HB.out)⟩
             ·rw [if_neg c49] at H
              have c49b0 : (t242 == t245) = false := by simpa using c49
              (try (have c49b1 : decide (t242 = t245) = false := by simpa using c49))
              (try (have c49b2 : (t242 == t245) = false := by simpa using c49))
              (try (have c49b3 : ¬ (t242 = t245) := by simpa using c49))
              clear c49
              exact absurd ((Option.some.inj H).trans HT_TRUE.out) (by simp)
            ·rw [if_neg c48] at H
             have c48b0 : (t237 == t239) = false := beq_eq_false_iff_ne.mpr c48
             have c48b1 : (t237 != t239) = true := bne_iff_ne.mpr c48
             exact absurd ((Option.some.inj H).trans HT_TRUE.out) (by simp)
           ·rw [if_neg c47] at H
            have c47b0 : (t233 == t235) = false := beq_eq_false_iff_ne.mpr c47
            have c47b1 : (t233 != t235) = true := bne_iff_ne.mpr c47
            exact absurd ((Option.some.inj H).trans HT_TRUE.out) (by simp)
          ·rw [if_neg c46] at H
           have c46b0 : (t246 == 0) = false := beq_eq_false_iff_ne.mpr c46
           have c46b1 : (t246 != 0) = true := bne_iff_ne.mpr c46
           exact absurd ((Option.some.inj H).trans HT_TRUE.out) (by simp)
         ·rw [if_neg c45] at H
          have c45b0 : (t243 == 0) = false := beq_eq_false_iff_ne.mpr c45
          have c45b1 : (t243 != 0) = true := bne_iff_ne.mpr c45
          exact absurd ((Option.some.inj H).trans HT_TRUE.out) (by simp)
        ·rw [if_neg c44] at H
         have c44b0 : (t240 == 0) = false := beq_eq_false_iff_ne.mpr c44
         have c44b1 : (t240 != 0) = true := bne_iff_ne.mpr c44
         exact absurd ((Option.some.inj H).trans HT_TRUE.out) (by simp)
       ·rw [if_neg c43] at H
        have c43b0 : (t238 == 0) = false := beq_eq_false_iff_ne.mpr c43
        have c43b1 : (t238 != 0) = true := bne_iff_ne.mpr c43
        exact absurd ((Option.some.inj H).trans HT_TRUE.out) (by simp)
      ·rw [if_neg c42] at H
       have c42b0 : (t236 == 0) = false := beq_eq_false_iff_ne.mpr c42
       have c42b1 : (t236 != 0) = true := bne_iff_ne.mpr c42
       exact absurd ((Option.some.inj H).trans HT_TRUE.out) (by simp)
     ·rw [if_neg c41] at H
      have c41b0 : (t234 == 0) = false := beq_eq_false_iff_ne.mpr c41
      have c41b1 : (t234 != 0) = true := bne_iff_ne.mpr c41
      exact absurd ((Option.some.inj H).trans HT_TRUE.out) (by simp)
 ·replace c6 := Bool.eq_false_iff.mpr c6
  subst c6
  have H1 : (some false) = some r := by rw [if_neg (show ¬ (false = true) by decide)] at H; exact H
  clear H
  have H := H1
  clear H1
  exact absurd ((Option.some.inj H).trans HT_TRUE.out) (by simp)

end Go.Proofs.Ytldpacphackdjaa.Print
