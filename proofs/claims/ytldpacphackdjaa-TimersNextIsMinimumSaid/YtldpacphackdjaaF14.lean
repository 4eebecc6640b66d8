/- That the call of function 14 (crossbarlaw10_TimersNextIsMinimum) answers what the Lean function of the same name answers, at every input at which that one answers. (Written by a program of the session, which drives the kit's printer.) -/
import Derived.Test.YtldpacphackdjaaHTExpire
import Derived.Test.YtldpacphackdjaaK0
import Derived.Test.YtldpacphackdjaaF38
import Derived.Test.YtldpacphackdjaaF32
import Derived.Test.YtldpacphackdjaaFA
import Derived.Test.YtldpacphackdjaaF46
namespace Go.Proofs.Ytldpacphackdjaa.Print
open Go.RowKit Go.Proofs.YtldpacphackdjaaW.PrintWords Go.Proofs.YtldpacphackdjaaW.PrintLast Go.Proofs.YtldpacphackdjaaW.PrintMore
attribute [local go_sem] max2_int min2_int max_two min_two max_three min_three max_four min_four   -- for this text's walks alone
set_option linter.unusedVariables false
set_option linter.unusedSimpArgs false

/-! ### crossbarlaw10_TimersNextIsMinimum: function 14 -/
mutual
def crossbarlaw10_TimersNextIsMinimum.l0 : Nat → List (S64) → Int → Bool → Int → Int → List (S64) → Option (Bool)
 | 0, _, _, _, _, _, _ => none
 | k + 1, x4, x5, x6, x7, x8, x546000 => if x8 < (x4.length : Int) then (if 0 ≤ x8 then (crossbarlaw10_TimersNextIsMinimum.l0 k x4 x5 x6 (mn x7 ((rd_T64 x4 x8).f1)) (wrap64 (x8 + 1)) x546000) else (none)) else ((timers_Expire.f x546000 x7).bind fun bt550 => (if x6 = true then (if x5 = x7 then (if bt550.2.2 = 0 then (crossbarlaw10_TimersNextIsMinimum.j1 k x7 ((bt550.2.1.length : Int) == 0) x546000) else (crossbarlaw10_TimersNextIsMinimum.j1 k x7 true x546000)) else (crossbarlaw10_TimersNextIsMinimum.j1 k x7 true x546000)) else (crossbarlaw10_TimersNextIsMinimum.j1 k x7 true x546000)))
def crossbarlaw10_TimersNextIsMinimum.j1 : Nat → Int → Bool → List (S64) → Option (Bool)
 | 0, _, _, _ => none
 | k + 1, x7, x84, x546000 => if x84 = true then (some false) else (if x7 = 0 then (some true) else ((timers_Expire.f x546000 (wrap64 (x7 - 1))).bind fun bt558 => (if bt558.2.2 = 0 then (if (bt558.2.1.length : Int) = 0 then ((crossbarref10_Same.f k bt558.1 x546000).bind fun t566 => (some t566)) else (some false)) else (some false))))
end
def crossbarlaw10_TimersNextIsMinimum.f (k : Nat) (l0 : List (S88)) : Option (Bool) := (crossbarlaw10_sane.f k).bind fun t538 => (if t538 = true then (if (l0.length : Int) > 100 then (some true) else ((crossbarlaw10_built.f k l0).bind fun bt539 => ((timers_Next.f bt539.1).bind fun bt546 => (if (bt539.2.length : Int) = 0 then (if bt546.1 = 0 then (if bt546.2 = true then (some false) else (some ((bt539.1.length : Int) == 0))) else (some false)) else (if 0 < (bt539.2.length : Int) then (crossbarlaw10_TimersNextIsMinimum.l0 k bt539.2 bt546.1 bt546.2 ((rd_T64 bt539.2 0).f1) 0 bt539.1) else (none)))))) else (some false))
theorem crossbarlaw10_TimersNextIsMinimum.mono_l : ∀ k, (∀ y0 y1 y2 y3 y4 y5, LeO (crossbarlaw10_TimersNextIsMinimum.l0 k y0 y1 y2 y3 y4 y5) (crossbarlaw10_TimersNextIsMinimum.l0 (k + 1) y0 y1 y2 y3 y4 y5)) ∧ (∀ y0 y1 y2, LeO (crossbarlaw10_TimersNextIsMinimum.j1 k y0 y1 y2) (crossbarlaw10_TimersNextIsMinimum.j1 (k + 1) y0 y1 y2))
 | 0 => ⟨fun _ _ _ _ _ _ r h => by simp [crossbarlaw10_TimersNextIsMinimum.l0] at h, fun _ _ _ r h => by simp [crossbarlaw10_TimersNextIsMinimum.j1] at h⟩
 | k + 1 => by
  obtain ⟨ih0, ih1⟩ := crossbarlaw10_TimersNextIsMinimum.mono_l k
  refine ⟨?_, ?_⟩
  ·intro y0 y1 y2 y3 y4 y5
   unfold crossbarlaw10_TimersNextIsMinimum.l0
   repeat' first
   | (with_reducible exact ih0 _ _ _ _ _ _)
   | (with_reducible exact ih1 _ _ _)
   | (with_reducible exact crossbarlaw10_built.mono _ _)
   | (with_reducible exact crossbarlaw10_sane.mono _)
   | (with_reducible exact crossbarref10_Same.mono _ _ _)
   | (with_reducible exact LeO.refl _)
   | (with_reducible exact LeO.none _)
   | (with_reducible refine LeO.ite ?_ ?_)
   | (with_reducible refine LeO.bind ?_ (fun _ => ?_))
   | exact ih0 _ _ _ _ _ _
   | exact ih1 _ _ _
   | exact crossbarlaw10_built.mono _ _
   | exact crossbarlaw10_sane.mono _
   | exact crossbarref10_Same.mono _ _ _
   | exact LeO.none _
   | refine LeO.ite ?_ ?_
   | refine LeO.bind ?_ (fun _ => ?_)
  ·intro y0 y1 y2
   unfold crossbarlaw10_TimersNextIsMinimum.j1
   repeat' first
   | (with_reducible exact ih0 _ _ _ _ _ _)
   | (with_reducible exact ih1 _ _ _)
   | (with_reducible exact crossbarlaw10_built.mono _ _)
   | (with_reducible exact crossbarlaw10_sane.mono _)
   | (with_reducible exact crossbarref10_Same.mono _ _ _)
   | (with_reducible exact LeO.refl _)
   | (with_reducible exact LeO.none _)
   | (with_reducible refine LeO.ite ?_ ?_)
   | (with_reducible refine LeO.bind ?_ (fun _ => ?_))
   | exact ih0 _ _ _ _ _ _
   | exact ih1 _ _ _
   | exact crossbarlaw10_built.mono _ _
   | exact crossbarlaw10_sane.mono _
   | exact crossbarref10_Same.mono _ _ _
   | exact LeO.none _
   | refine LeO.ite ?_ ?_
   | refine LeO.bind ?_ (fun _ => ?_)
theorem crossbarlaw10_TimersNextIsMinimum.mono : ∀ a0 k, LeO (crossbarlaw10_TimersNextIsMinimum.f k a0) (crossbarlaw10_TimersNextIsMinimum.f (k + 1) a0) := by
 intro a0 k
 obtain ⟨ih0, ih1⟩ := crossbarlaw10_TimersNextIsMinimum.mono_l k
 unfold crossbarlaw10_TimersNextIsMinimum.f
 repeat' first
   | (with_reducible exact ih0 _ _ _ _ _ _)
   | (with_reducible exact ih1 _ _ _)
   | (with_reducible exact crossbarlaw10_built.mono _ _)
   | (with_reducible exact crossbarlaw10_sane.mono _)
   | (with_reducible exact crossbarref10_Same.mono _ _ _)
   | (with_reducible exact LeO.refl _)
   | (with_reducible exact LeO.none _)
   | (with_reducible refine LeO.ite ?_ ?_)
   | (with_reducible refine LeO.bind ?_ (fun _ => ?_))
   | exact ih0 _ _ _ _ _ _
   | exact ih1 _ _ _
   | exact crossbarlaw10_built.mono _ _
   | exact crossbarlaw10_sane.mono _
   | exact crossbarref10_Same.mono _ _ _
   | exact LeO.none _
   | refine LeO.ite ?_ ?_
   | refine LeO.bind ?_ (fun _ => ?_)
set_option maxHeartbeats 8000000 in
set_option maxRecDepth 100000 in
theorem crossbarlaw10_TimersNextIsMinimum.calls (k : Nat) (A0 : Option Addr) (c0 : Nat) (l0 : List (S88)) (r : Bool) (w : World) (hr0 : Kd.C k88 w A0 l0.length l0) (hc0 : l0.length ≤ c0) (h : crossbarlaw10_TimersNextIsMinimum.f k l0 = some r) (hT : r = true := by rfl) :
  Calls Try.prog 14 #[.slice A0 l0.length c0] w fun e w' => e = .returned (.bool r) ∧ Below w.heap.size w w' := by
 have HT_TRUE := Aside0.mk hT
 clear hT
 have hu45 := Try.underlying45
 have HR0 := Aside0.mk hr0
 have HC0 := Aside0.mk hc0
 clear hr0 hc0
 have HB := Aside0.mk (Below.refl w.heap.size w)
 have H : ((crossbarlaw10_sane.f k).bind fun t538 => (if t538 = true then (if (l0.length : Int) > 100 then (some true) else ((crossbarlaw10_built.f k l0).bind fun bt539 => ((timers_Next.f bt539.1).bind fun bt546 => (if (bt539.2.length : Int) = 0 then (if bt546.1 = 0 then (if bt546.2 = true then (some false) else (some ((bt539.1.length : Int) == 0))) else (some false)) else (if 0 < (bt539.2.length : Int) then (crossbarlaw10_TimersNextIsMinimum.l0 k bt539.2 bt546.1 bt546.2 ((rd_T64 bt539.2 0).f1) 0 bt539.1) else (none)))))) else (some false))) = some r := h
 clear h
 replace H := Option.bind_eq_some_iff.mp H
 obtain ⟨t538, A20, H⟩ := H
 replace H : (if t538 = true then (if (l0.length : Int) > 100 then (some true) else ((crossbarlaw10_built.f k l0).bind fun bt539 => ((timers_Next.f bt539.1).bind fun bt546 => (if (bt539.2.length : Int) = 0 then (if bt546.1 = 0 then (if bt546.2 = true then (some false) else (some ((bt539.1.length : Int) == 0))) else (some false)) else (if 0 < (bt539.2.length : Int) then (crossbarlaw10_TimersNextIsMinimum.l0 k bt539.2 bt546.1 bt546.2 ((rd_T64 bt539.2 0).f1) 0 bt539.1) else (none)))))) else (some false)) = some r := H
 have A2 := Aside0.mk A20
 clear A20
 by_cases c3 : t538 = true
 ·subst c3
  have H1 : (if (l0.length : Int) > 100 then (some true) else ((crossbarlaw10_built.f k l0).bind fun bt539 => ((timers_Next.f bt539.1).bind fun bt546 => (if (bt539.2.length : Int) = 0 then (if bt546.1 = 0 then (if bt546.2 = true then (some false) else (some ((bt539.1.length : Int) == 0))) else (some false)) else (if 0 < (bt539.2.length : Int) then (crossbarlaw10_TimersNextIsMinimum.l0 k bt539.2 bt546.1 bt546.2 ((rd_T64 bt539.2 0).f1) 0 bt539.1) else (none)))))) = some r := by rw [if_pos rfl] at H; exact H
  clear H
  have H := H1
  clear H1
  by_cases c4 : (l0.length : Int) > 100
  ·rw [if_pos c4] at H
   have c4b0 : decide (100 < (l0.length : Int)) = true := decide_eq_true c4
   have c4b1 : decide (100 < l0.length) = true := decide_eq_true (by omega)
   clear c4
   obtain rfl := Option.some.inj H
   go_enter Try.func14, Try.ntmps14
   go_wp2_with (first | ((with_reducible refine gate_callee (f := 32) rfl ?_); refine goesL_ (some 15) rfl rfl Try.func32 (by kernel_rfl) rfl #[] rfl (by (try simp only [List.map_toArray, List.map_cons, List.map_nil]); first | done | rfl | (simp only [List.length_drop, List.length_take]; rfl)) ?_; (with_reducible refine (crossbarlaw10_sane.calls k  true _ A2.out).mono ?_); rintro e w5 ⟨rfl, hb⟩; refine ⟨_, rfl, ?_⟩; have n0_ := Aside0.mk (below_step (by repeat (first | (with_reducible first | exact HB.out | apply below_alloc | apply pw_below_drewN | apply below_drew1) | exact HB.out)) hb); clear HB; have HB := n0_; clear n0_; (try clear hb); (try clear hb2); (try clear hk); (try clear hi)))
   go_ret
   exact ⟨by first | rfl | (simp [errW_none, errW_some] <;> rfl) | (simp [*, errW_none, errW_some] <;> rfl), by repeat (first | (with_reducible first | exact HB.out | apply below_alloc | apply pw_below_drewN | apply below_drew1) | exact HB.out)⟩
  ·rw [if_neg c4] at H
   have c4b0 : decide (100 < (l0.length : Int)) = false := decide_eq_false c4
   have c4b1 : decide (100 < l0.length) = false := decide_eq_false (by omega)
   clear c4
   replace H := Option.bind_eq_some_iff.mp H
   obtain ⟨⟨t539, t542⟩, A60, H⟩ := H
   replace H : ((timers_Next.f t539).bind fun bt546 => (if (t542.length : Int) = 0 then (if bt546.1 = 0 then (if bt546.2 = true then (some false) else (some ((t539.length : Int) == 0))) else (some false)) else (if 0 < (t542.length : Int) then (crossbarlaw10_TimersNextIsMinimum.l0 k t542 bt546.1 bt546.2 ((rd_T64 t542 0).f1) 0 t539) else (none)))) = some r := H
   have A6 := Aside0.mk A60
   clear A60
   replace H := Option.bind_eq_some_iff.mp H
   obtain ⟨⟨t546, t547⟩, A70, H⟩ := H
   replace H : (if (t542.length : Int) = 0 then (if t546 = 0 then (if t547 = true then (some false) else (some ((t539.length : Int) == 0))) else (some false)) else (if 0 < (t542.length : Int) then (crossbarlaw10_TimersNextIsMinimum.l0 k t542 t546 t547 ((rd_T64 t542 0).f1) 0 t539) else (none))) = some r := H
   have A7 := Aside0.mk A70
   clear A70
   by_cases c8 : (t542.length : Int) = 0
   ·rw [if_pos c8] at H
    have c8b0 : ((t542.length : Int) == 0) = true := beq_iff_eq.mpr c8
    have c8b1 : ((t542.length : Int) != 0) = false := bne_eq_false_iff_eq.mpr c8
    clear c8
    by_cases c9 : t546 = 0
    ·rw [if_pos c9] at H
     have c9b0 : (t546 == 0) = true := beq_iff_eq.mpr c9
     have c9b1 : (t546 != 0) = false := bne_eq_false_iff_eq.mpr c9
     clear c9
     by_cases c10 : t547 = true
     ·subst c10
      have H1 : (some false) = some r := by rw [if_pos rfl] at H; exact H
      clear H
      have H := H1
      clear H1
      exact absurd ((Option.some.inj H).trans HT_TRUE.out) (by simp)
     ·replace c10 := Bool.eq_false_iff.mpr c10
      subst c10
      have H1 : (some ((t539.length : Int) == 0)) = some r := by rw [if_neg (show ¬ (false = true) by decide)] at H; exact H
      clear H
      have H := H1
      clear H1
      obtain rfl := Option.some.inj H
      go_enter Try.func14, Try.ntmps14
      go_wp2_with (first | ((with_reducible refine gate_callee (f := 32) rfl ?_); refine goesL_ (some 15) rfl rfl Try.func32 (by kernel_rfl) rfl #[] rfl (by (try simp only [List.map_toArray, List.map_cons, List.map_nil]); first | done | rfl | (simp only [List.length_drop, List.length_take]; rfl)) ?_; (with_reducible refine (crossbarlaw10_sane.calls k  true _ A2.out).mono ?_); rintro e w11 ⟨rfl, hb⟩; refine ⟨_, rfl, ?_⟩; have n0_ := Aside0.mk (below_step (by repeat (first | (with_reducible first | exact HB.out | apply below_alloc | apply pw_below_drewN | apply below_drew1) | exact HB.out)) hb); clear HB; have HB := n0_; clear n0_; (try clear hb); (try clear hb2); (try clear hk); (try clear hi)) | ((with_reducible refine gate_callee (f := 46) rfl ?_); refine goesL_ (some 22) rfl rfl Try.func46 (by kernel_rfl) rfl #[.slice A0 l0.length c0] rfl (by (try simp only [List.map_toArray, List.map_cons, List.map_nil]); first | done | rfl | (simp only [List.length_drop, List.length_take]; rfl)) ?_; (with_reducible refine (crossbarlaw10_built.calls k _ _ l0 t539 t542 _ ?side1 ?side2 A6.out).mono ?_); (case side1 => repeat (first | exact (Kd.C_below HR0.out HB.out) | (with_reducible refine Kd.C_alloc ?_ _) | (with_reducible refine Kd.C_drewN ?_ _) | (with_reducible refine Kd.C_drew ?_))); (case side2 => exact HC0.out); rintro e w12 ⟨v540, v543, rfl, ho0, ho1, hb⟩; refine ⟨_, rfl, ?_⟩; have n0_ := Aside0.mk (Kd.R_lower ho0 (below_size (by repeat (first | (with_reducible first | exact HB.out | apply below_alloc | apply pw_below_drewN | apply below_drew1) | exact HB.out)))); have n1_ := Aside0.mk (Kd.R_lower ho1 (below_size (by repeat (first | (with_reducible first | exact HB.out | apply below_alloc | apply pw_below_drewN | apply below_drew1) | exact HB.out)))); have n2_ := Aside0.mk (below_step (by repeat (first | (with_reducible first | exact HB.out | apply below_alloc | apply pw_below_drewN | apply below_drew1) | exact HB.out)) hb); clear HB; have HO541 := n0_; have HO544 := n1_; have HB := n2_; clear n0_ n1_ n2_; (try clear hb); (try clear hb2); (try clear hk); (try clear hi); (try clear ho0); (try clear ho1)) | ((with_reducible refine gate_dst (N := 3) rfl ?_); (try (refine gate_guard (by rfl) ?_; dsimp only)); refine box_event ?hg (N := 3) ?hd (cs := #[.slice none 0 0]) (t := 45) ?hr ?_; (case hd => rfl); (case hg => rfl); (case hr => first | (go_simp; done) | (go_simp; rfl)); intro gb545 hg w13 hbox hb; have n0_ := Aside0.mk (Kd.R_below (by (with_reducible repeat (first | apply Kd.R_alloc | apply Kd.R_drewN | apply Kd.R_drew)); exact HO541.out) hb); have n1_ := Aside0.mk (Kd.R_below (by (with_reducible repeat (first | apply Kd.R_alloc | apply Kd.R_drewN | apply Kd.R_drew)); exact HO544.out) hb); have n2_ := Aside0.mk (below_step (by repeat (first | (with_reducible first | exact HB.out | apply below_alloc | apply pw_below_drewN | apply below_drew1) | exact HB.out)) hb); have n3_ := Aside0.mk (hbox); have n4_ := Aside0.mk ((by rw [hg]; exact (below_size (by repeat (first | (with_reducible first | exact HB.out | apply below_alloc | apply pw_below_drewN | apply below_drew1) | exact HB.out))) : w.heap.size ≤ gb545)); have n5_ := Aside0.mk ((by rw [hg]; exact (below_size (by repeat (first | (with_reducible first | exact HB.out | apply below_alloc | apply pw_below_drewN | apply below_drew1) | exact HB.out))) : w.heap.size ≤ gb545)); clear HO541; clear HO544; clear HB; have HO541 := n0_; have HO544 := n1_; have HB := n2_; have BK545 := n3_; have GW545 := n4_; have GE545 := n5_; clear n0_ n1_ n2_ n3_ n4_ n5_; clear hb hbox hg; obtain ⟨Ao14, co14, eo14⟩ := Kd.R_slice HO541.out; subst eo14; have hcz15_0 : w13.cell? ⟨gb545, 0, none⟩ = some (.slice none 0 0) := (blk_cell BK545.out 0).trans rfl; have hfz15_0 := blk_frozen BK545.out 0) | ((with_reducible refine gate_callee (f := 38) rfl ?_); refine goesL_ (some 27) rfl rfl Try.func38 (by kernel_rfl) rfl #[.agg #[.slice Ao14 t539.length co14]] rfl (by (try simp only [List.map_toArray, List.map_cons, List.map_nil]); first | done | rfl | (simp only [List.length_drop, List.length_take]; rfl)) ?_; (with_reducible refine (timers_Next.calls _ _ t539 t546 false _ ?side1 ?side2 A7.out).mono ?_); (case side1 => refine (Kd.R_reads' (e := 64) (base := w.heap.size) (ok := fun k_ => some k_ ≠ (v543 : Value).ownBlock) (n := t539.length) (c := co14) ?_).2.2; exact (by (with_reducible repeat (first | apply Kd.R_alloc | apply Kd.R_drewN | apply Kd.R_drew)); exact (Kd.R_mono (Kd.R_far (p := ⟨gb545, 0, none⟩) (Kd.R_types HO541.out BK545.out (by decide)) (fun _ hk => hk.2) (.slice Ao14 t539.length co14)) (fun _ h_ => h_.1)))); (case side2 => exact (Kd.R_reads' HO541.out).2.1); rintro e w16 ⟨rfl, hb⟩; refine ⟨_, rfl, ?_⟩; have n0_ := Aside0.mk (Kd.R_below (by (with_reducible repeat (first | apply Kd.R_alloc | apply Kd.R_drewN | apply Kd.R_drew)); exact (Kd.R_mono (Kd.R_far (p := ⟨gb545, 0, none⟩) (Kd.R_types HO541.out BK545.out (by decide)) (fun _ hk => hk.2) (.slice Ao14 t539.length co14)) (fun _ h_ => h_.1))) hb); have n1_ := Aside0.mk (Kd.R_below (by (with_reducible repeat (first | apply Kd.R_alloc | apply Kd.R_drewN | apply Kd.R_drew)); exact (Kd.R_mono (Kd.R_far (p := ⟨gb545, 0, none⟩) (Kd.R_types HO544.out BK545.out (by decide)) (fun _ hk => hk.2) (.slice Ao14 t539.length co14)) (fun _ h_ => h_.1))) hb); have n2_ := Aside0.mk (blk_below (g := gb545) (o := .cells #[.slice Ao14 t539.length co14] 45 (0, 0)) (by (with_reducible repeat (first | refine blk_drewN ?_ _ | refine blk_drew ?_ | refine blk_alloc ?_ _)); refine blk_put (cs := #[.slice none 0 0]) ?_ 0 _ rfl; (with_reducible repeat (first | refine blk_drewN ?_ _ | refine blk_drew ?_ | refine blk_alloc ?_ _)); exact BK545.out) hb); have n3_ := Aside0.mk (below_step (by repeat (first | (with_reducible first | exact HB.out | apply below_alloc | apply pw_below_drewN | apply below_drew1 | refine below_set ?_ GE545.out) | exact HB.out)) hb); clear HO541; clear HO544; clear BK545; clear HB; have HO541 := n0_; have HO544 := n1_; have BK545 := n2_; have HB := n3_; clear n0_ n1_ n2_ n3_; (try clear hb); (try clear hb2); (try clear hk); (try clear hi); obtain ⟨Ao17, co17, eo17⟩ := Kd.R_slice HO544.out; subst eo17; have hcz18_0 : w16.cell? ⟨gb545, 0, none⟩ = some (.slice Ao14 t539.length co14) := (blk_cell BK545.out 0).trans rfl; have hfz18_0 := blk_frozen BK545.out 0))
      go_ret
      exact ⟨by first | rfl | (simp [errW_none, errW_some] <;> rfl) | (simp [*, errW_none, errW_some] <;> rfl), by repeat (first | (with_reducible first | exact HB.out | apply below_alloc | apply pw_below_drewN | apply below_drew1 | refine below_set ?_ GE545.out) | exact HB.out)⟩
    ·rw [if_neg c9] at H
     have c9b0 : (t546 == 0) = false := beq_eq_false_iff_ne.mpr c9
     have c9b1 : (t546 != 0) = true := bne_iff_ne.mpr c9
     exact absurd ((Option.some.inj H).trans HT_TRUE.out) (by simp)
   ·rw [if_neg c8] at H
    have c8b0 : ((t542.length : Int) == 0) = false := beq_eq_false_iff_ne.mpr c8
    have c8b1 : ((t542.length : Int) != 0) = true := bne_iff_ne.mpr c8
    have c8b2 : ¬ (t542 = []) := fun h_ => c8 (by rw [h_]; rfl)
    by_cases c19 : 0 < (t542.length : Int)
    ·rw [if_pos c19] at H
     have c19b0 : decide (0 < (t542.length : Int)) = true := decide_eq_true c19
     have c19b1 : decide (0 < t542.length) = true := decide_eq_true (by omega)
     clear c19
     have H' := Aside0.mk H
     clear H
     go_enter Try.func14, Try.ntmps14
     go_wp2_with (first | ((with_reducible refine gate_callee (f := 32) rfl ?_); refine goesL_ (some 15) rfl rfl Try.func32 (by kernel_rfl) rfl #[] rfl (by (try simp only [List.map_toArray, List.map_cons, List.map_nil]); first | done | rfl | (simp only [List.length_drop, List.length_take]; rfl)) ?_; (with_reducible refine (crossbarlaw10_sane.calls k  true _ A2.out).mono ?_); rintro e w20 ⟨rfl, hb⟩; refine ⟨_, rfl, ?_⟩; have n0_ := Aside0.mk (below_step (by repeat (first | (with_reducible first | exact HB.out | apply below_alloc | apply pw_below_drewN | apply below_drew1) | exact HB.out)) hb); clear HB; have HB := n0_; clear n0_; (try clear hb); (try clear hb2); (try clear hk); (try clear hi)) | ((with_reducible refine gate_callee (f := 46) rfl ?_); refine goesL_ (some 22) rfl rfl Try.func46 (by kernel_rfl) rfl #[.slice A0 l0.length c0] rfl (by (try simp only [List.map_toArray, List.map_cons, List.map_nil]); first | done | rfl | (simp only [List.length_drop, List.length_take]; rfl)) ?_; (with_reducible refine (crossbarlaw10_built.calls k _ _ l0 t539 t542 _ ?side1 ?side2 A6.out).mono ?_); (case side1 => repeat (first | exact (Kd.C_below HR0.out HB.out) | (with_reducible refine Kd.C_alloc ?_ _) | (with_reducible refine Kd.C_drewN ?_ _) | (with_reducible refine Kd.C_drew ?_))); (case side2 => exact HC0.out); rintro e w21 ⟨v540, v543, rfl, ho0, ho1, hb⟩; refine ⟨_, rfl, ?_⟩; have n0_ := Aside0.mk (Kd.R_lower ho0 (below_size (by repeat (first | (with_reducible first | exact HB.out | apply below_alloc | apply pw_below_drewN | apply below_drew1) | exact HB.out)))); have n1_ := Aside0.mk (Kd.R_lower ho1 (below_size (by repeat (first | (with_reducible first | exact HB.out | apply below_alloc | apply pw_below_drewN | apply below_drew1) | exact HB.out)))); have n2_ := Aside0.mk (below_step (by repeat (first | (with_reducible first | exact HB.out | apply below_alloc | apply pw_below_drewN | apply below_drew1) | exact HB.out)) hb); clear HB; have HO541 := n0_; have HO544 := n1_; have HB := n2_; clear n0_ n1_ n2_; (try clear hb); (try clear hb2); (try clear hk); (try clear hi); (try clear ho0); (try clear ho1)) | ((with_reducible refine gate_dst (N := 3) rfl ?_); (try (refine gate_guard (by rfl) ?_; dsimp only)); refine box_event ?hg (N := 3) ?hd (cs := #[.slice none 0 0]) (t := 45) ?hr ?_; (case hd => rfl); (case hg => rfl); (case hr => first | (go_simp; done) | (go_simp; rfl)); intro gb545 hg w22 hbox hb; have n0_ := Aside0.mk (Kd.R_below (by (with_reducible repeat (first | apply Kd.R_alloc | apply Kd.R_drewN | apply Kd.R_drew)); exact HO541.out) hb); have n1_ := Aside0.mk (Kd.R_below (by (with_reducible repeat (first | apply Kd.R_alloc | apply Kd.R_drewN | apply Kd.R_drew)); exact HO544.out) hb); have n2_ := Aside0.mk (below_step (by repeat (first | (with_reducible first | exact HB.out | apply below_alloc | apply pw_below_drewN | apply below_drew1) | exact HB.out)) hb); have n3_ := Aside0.mk (hbox); have n4_ := Aside0.mk ((by rw [hg]; exact (below_size (by repeat (first | (with_reducible first | exact HB.out | apply below_alloc | apply pw_below_drewN | apply below_drew1) | exact HB.out))) : w.heap.size ≤ gb545)); have n5_ := Aside0.mk ((by rw [hg]; exact (below_size (by repeat (first | (with_reducible first | exact HB.out | apply below_alloc | apply pw_below_drewN | apply below_drew1) | exact HB.out))) : w.heap.size ≤ gb545)); clear HO541; clear HO544; clear HB; have HO541 := n0_; have HO544 := n1_; have HB := n2_; have BK545 := n3_; have GW545 := n4_; have GE545 := n5_; clear n0_ n1_ n2_ n3_ n4_ n5_; clear hb hbox hg; obtain ⟨Ao23, co23, eo23⟩ := Kd.R_slice HO541.out; subst eo23; have hcz24_0 : w22.cell? ⟨gb545, 0, none⟩ = some (.slice none 0 0) := (blk_cell BK545.out 0).trans rfl; have hfz24_0 := blk_frozen BK545.out 0) | ((with_reducible refine gate_callee (f := 38) rfl ?_); refine goesL_ (some 27) rfl rfl Try.func38 (by kernel_rfl) rfl #[.agg #[.slice Ao23 t539.length co23]] rfl (by (try simp only [List.map_toArray, List.map_cons, List.map_nil]); first | done | rfl | (simp only [List.length_drop, List.length_take]; rfl)) ?_; (with_reducible refine (timers_Next.calls _ _ t539 t546 t547 _ ?side1 ?side2 A7.out).mono ?_); (case side1 => refine (Kd.R_reads' (e := 64) (base := w.heap.size) (ok := fun k_ => some k_ ≠ (v543 : Value).ownBlock) (n := t539.length) (c := co23) ?_).2.2; exact (by (with_reducible repeat (first | apply Kd.R_alloc | apply Kd.R_drewN | apply Kd.R_drew)); exact (Kd.R_mono (Kd.R_far (p := ⟨gb545, 0, none⟩) (Kd.R_types HO541.out BK545.out (by decide)) (fun _ hk => hk.2) (.slice Ao23 t539.length co23)) (fun _ h_ => h_.1)))); (case side2 => exact (Kd.R_reads' HO541.out).2.1); rintro e w25 ⟨rfl, hb⟩; refine ⟨_, rfl, ?_⟩; have n0_ := Aside0.mk (Kd.R_below (by (with_reducible repeat (first | apply Kd.R_alloc | apply Kd.R_drewN | apply Kd.R_drew)); exact (Kd.R_mono (Kd.R_far (p := ⟨gb545, 0, none⟩) (Kd.R_types HO541.out BK545.out (by decide)) (fun _ hk => hk.2) (.slice Ao23 t539.length co23)) (fun _ h_ => h_.1))) hb); have n1_ := Aside0.mk (Kd.R_below (by (with_reducible repeat (first | apply Kd.R_alloc | apply Kd.R_drewN | apply Kd.R_drew)); exact (Kd.R_mono (Kd.R_far (p := ⟨gb545, 0, none⟩) (Kd.R_types HO544.out BK545.out (by decide)) (fun _ hk => hk.2) (.slice Ao23 t539.length co23)) (fun _ h_ => h_.1))) hb); have n2_ := Aside0.mk (blk_below (g := gb545) (o := .cells #[.slice Ao23 t539.length co23] 45 (0, 0)) (by (with_reducible repeat (first | refine blk_drewN ?_ _ | refine blk_drew ?_ | refine blk_alloc ?_ _)); refine blk_put (cs := #[.slice none 0 0]) ?_ 0 _ rfl; (with_reducible repeat (first | refine blk_drewN ?_ _ | refine blk_drew ?_ | refine blk_alloc ?_ _)); exact BK545.out) hb); have n3_ := Aside0.mk (below_step (by repeat (first | (with_reducible first | exact HB.out | apply below_alloc | apply pw_below_drewN | apply below_drew1 | refine below_set ?_ GE545.out) | exact HB.out)) hb); clear HO541; clear HO544; clear BK545; clear HB; have HO541 := n0_; have HO544 := n1_; have BK545 := n2_; have HB := n3_; clear n0_ n1_ n2_ n3_; (try clear hb); (try clear hb2); (try clear hk); (try clear hi); obtain ⟨Ao26, co26, eo26⟩ := Kd.R_slice HO544.out; subst eo26; have p548 : 0 ≤ (0 : Int) := (by omega); have q548 : 0 < (t542.length : Int) := of_decide_eq_true (by first | (with_reducible assumption) | assumption); obtain ⟨ad548, e548, hx548_0, hx548_1⟩ := at_T64 (Kd.R_reads' HO544.out).2.2 0 p548 q548; cases e548; have qi548 : (0 < t542.length) = True := eq_true (by omega); (try rw [show ((0 : Int)).toNat = 0 from rfl] at hx548_0); (try rw [show 0 * 2 = 0 from rfl] at hx548_0); (try rw [Addr.add_zero'] at hx548_0); (try rw [show ((0 : Int)).toNat = 0 from rfl] at hx548_1); (try rw [show 0 * 2 = 0 from rfl] at hx548_1); (try rw [Addr.add_zero'] at hx548_1); replace p548 := eq_true p548; replace q548 := eq_true q548))
     go_loopg [7, 8] k (fun kq v7 v8 w' => ∃ (x7_1 : Int) (x8_1 : Int), v7 = .int .i64 x7_1 ∧ v8 = .int .i64 x8_1 ∧ Aside0 (crossbarlaw10_TimersNextIsMinimum.l0 kq t542 t546 t547 x7_1 x8_1 t539 = some r) ∧ Aside0 (kq ≤ k) ∧ Aside0 (Kd.R k64 64 w' w.heap.size (fun k_ => some k_ ≠ ((.slice Ao23 t539.length co23) : Value).ownBlock) (.slice (some ad548) t542.length co26) t542) ∧ Aside0 (Kd.R k64 64 w' w.heap.size (fun k_ => some k_ ≠ ((.slice (some ad548) t542.length co26) : Value).ownBlock) (.slice Ao23 t539.length co23) t539) ∧ Aside0 (w'.heap[gb545]? = some (.cells #[(.slice Ao23 t539.length co23)] 45 (0, 0))) ∧ Aside0 (Below w.heap.size w w'))
     case atStart => exact ⟨((rd_T64 t542 0).f1), (0), (by first | rfl | (simp; done) | (simp [*]; done)), (by first | rfl | (simp; done) | (simp [*]; done)), H', ⟨Nat.le_refl _⟩, ⟨by (with_reducible repeat (first | apply Kd.R_alloc | apply Kd.R_drewN | apply Kd.R_drew)); exact HO544.out⟩, ⟨by (with_reducible repeat (first | apply Kd.R_alloc | apply Kd.R_drewN | apply Kd.R_drew)); exact HO541.out⟩, ⟨by (with_reducible repeat (first | refine blk_drewN ?_ _ | refine blk_drew ?_ | refine blk_alloc ?_ _)); exact BK545.out⟩, ⟨by repeat (first | (with_reducible first | exact HB.out | apply below_alloc | apply pw_below_drewN | apply below_drew1 | refine below_set ?_ GE545.out) | exact HB.out)⟩⟩
     case round =>
      clear H'
      try clear c1
      try clear p2
      try clear c3
      try clear c4
      try clear c4b0
      try clear c4b1
      try clear p5
      try clear q5
      try clear hx5
      try clear qi5
      try clear c8
      try clear c8b0
      try clear c8b1
      try clear c8b2
      try clear c9
      try clear c9b0
      try clear c9b1
      try clear c10
      try clear c14
      try clear c19
      try clear c19b0
      try clear c19b1
      try clear hcz15_0
      try clear hcz18_0
      try clear hcz24_0
      try clear hfz15_0
      try clear hfz18_0
      try clear hfz24_0
      try clear hx548_0
      try clear hx548_1
      try clear p548
      try clear q548
      obtain ⟨x7_1, x8_1, rfl, rfl, HA, HK1, HO_4, HO_546000, BK545, HB⟩ := hrel
      cases gk with
      | zero => exact absurd HA.out (by simp [crossbarlaw10_TimersNextIsMinimum.l0])
      | succ k1 =>
       have H := HA.out
       clear HA
       simp only [crossbarlaw10_TimersNextIsMinimum.l0] at H
       by_cases c27 : x8_1 < (t542.length : Int)
       ·rw [if_pos c27] at H
        have c27b0 : decide (x8_1 < (t542.length : Int)) = true := decide_eq_true c27
        clear c27
        by_cases c28 : 0 ≤ x8_1
        ·rw [if_pos c28] at H
         have c28b0 : decide (0 ≤ x8_1) = true := decide_eq_true c28
         clear c28
         obtain ⟨ji29, hji29⟩ : ∃ j_ : Int, (mn x7_1 ((rd_T64 t542 x8_1).f1)) = j_ := ⟨_, rfl⟩
         replace H : (crossbarlaw10_TimersNextIsMinimum.l0 k1 t542 t546 t547 ji29 (wrap64 (x8_1 + 1)) t539) = some r := by first | (rw [hji29] at H; exact H) | (simp only [hji29] at H ⊢; exact H)
         have hji29_ : (if ((rd_T64 t542 x8_1).f1) < x7_1 then ((rd_T64 t542 x8_1).f1) else x7_1) = ji29 := hji29
         have H' := Aside0.mk H
         clear H
         have p549 : 0 ≤ (x8_1 : Int) := of_decide_eq_true (by first | (with_reducible assumption) | assumption)
         have q549 : x8_1 < (t542.length : Int) := of_decide_eq_true (by first | (with_reducible assumption) | assumption)
         obtain ⟨ad549, e549, hx549_0, hx549_1⟩ := at_T64 (Kd.R_reads' HO_4.out).2.2 x8_1 p549 q549
         obtain rfl : ad548 = ad549 := (by injection e549)
         replace p549 := eq_true p549
         replace q549 := eq_true q549
         go_wp2
         go_roundg k1
         case measure => have := HK1.out; omega
         case rel => exact ⟨(ji29), (wrap64 (x8_1 + 1)), (by first | rfl | (simp; done) | (simp only [← hji29] <;> (first | rfl | simp)) | (simp [*]; done)), (by first | rfl | (simp; done) | (simp [*]; done)), H', ⟨by have := HK1.out; omega⟩, ⟨by (with_reducible repeat (first | apply Kd.R_alloc | apply Kd.R_drewN | apply Kd.R_drew)); exact HO_4.out⟩, ⟨by (with_reducible repeat (first | apply Kd.R_alloc | apply Kd.R_drewN | apply Kd.R_drew)); exact HO_546000.out⟩, ⟨by (with_reducible repeat (first | refine blk_drewN ?_ _ | refine blk_drew ?_ | refine blk_alloc ?_ _)); exact BK545.out⟩, ⟨by repeat (first | (with_reducible first | exact HB.out | apply below_alloc | apply pw_below_drewN | apply below_drew1 | refine below_set ?_ GE545.out) | exact HB.out)⟩⟩
        ·rw [if_neg c28] at H
         exact absurd H (by simp)
       ·rw [if_neg c27] at H
        have c27b0 : decide (x8_1 < (t542.length : Int)) = false := decide_eq_false c27
        clear c27
        replace H := Option.bind_eq_some_iff.mp H
        obtain ⟨⟨t550, t553, t556⟩, A300, H⟩ := H
        replace H : (if t547 = true then (if t546 = x7_1 then (if t556 = 0 then (crossbarlaw10_TimersNextIsMinimum.j1 k1 x7_1 ((t553.length : Int) == 0) t539) else (crossbarlaw10_TimersNextIsMinimum.j1 k1 x7_1 true t539)) else (crossbarlaw10_TimersNextIsMinimum.j1 k1 x7_1 true t539)) else (crossbarlaw10_TimersNextIsMinimum.j1 k1 x7_1 true t539)) = some r := H
        have A30 := Aside0.mk A300
        clear A300
        have HC31 := Aside0.mk H
        clear H
        have hcz32_0 : wr.cell? ⟨gb545, 0, none⟩ = some (.slice Ao23 t539.length co23) := (blk_cell BK545.out 0).trans rfl
        have hfz32_0 := blk_frozen BK545.out 0
        go_upto_region 15 with (first | ((with_reducible refine gate_callee (f := 43) rfl ?_); refine goesL_ (some 65) rfl rfl Try.func43 (by kernel_rfl) rfl #[.agg #[.slice Ao23 t539.length co23], .int .i64 x7_1] rfl (by (try simp only [List.map_toArray, List.map_cons, List.map_nil]); first | done | rfl | (simp only [List.length_drop, List.length_take]; rfl)) ?_; (with_reducible refine (timers_Expire.calls _ _ t539 x7_1 t550 t553 t556 _ ?side1 ?side2 A30.out).mono ?_); (case side1 => repeat (first | exact (Kd.R_reads' HO_546000.out).2.2 | (with_reducible refine Kd.C_alloc ?_ _) | (with_reducible refine Kd.C_drewN ?_ _) | (with_reducible refine Kd.C_drew ?_))); (case side2 => exact (Kd.R_reads' HO_546000.out).2.1); rintro e w33 ⟨v551, v554, rfl, ho0, ho1, hb⟩; refine ⟨_, rfl, ?_⟩; have n0_ := Aside0.mk (Kd.R_elder' (by (with_reducible repeat (first | apply Kd.R_alloc | apply Kd.R_drewN | apply Kd.R_drew)); exact HO_4.out) (Kd.R_base ho0) hb); have n1_ := Aside0.mk (Kd.R_elder' (by (with_reducible repeat (first | apply Kd.R_alloc | apply Kd.R_drewN | apply Kd.R_drew)); exact HO_546000.out) (Kd.R_base ho0) hb); have n2_ := Aside0.mk (Kd.R_lower (Kd.R_new' (Kd.R_new' ho0 (Kd.R_lt (by (with_reducible repeat (first | apply Kd.R_alloc | apply Kd.R_drewN | apply Kd.R_drew)); exact HO_4.out))) (Kd.R_lt (by (with_reducible repeat (first | apply Kd.R_alloc | apply Kd.R_drewN | apply Kd.R_drew)); exact HO_546000.out))) (below_size (by repeat (first | (with_reducible first | exact HB.out | apply below_alloc | apply pw_below_drewN | apply below_drew1 | refine below_set ?_ GE545.out) | exact HB.out)))); have n3_ := Aside0.mk (Kd.R_lower ho1 (below_size (by repeat (first | (with_reducible first | exact HB.out | apply below_alloc | apply pw_below_drewN | apply below_drew1 | refine below_set ?_ GE545.out) | exact HB.out)))); have n4_ := Aside0.mk (blk_below (g := gb545) (o := .cells #[.slice Ao23 t539.length co23] 45 (0, 0)) (by (with_reducible repeat (first | refine blk_drewN ?_ _ | refine blk_drew ?_ | refine blk_alloc ?_ _)); exact BK545.out) hb); have n5_ := Aside0.mk (below_step (by repeat (first | (with_reducible first | exact HB.out | apply below_alloc | apply pw_below_drewN | apply below_drew1 | refine below_set ?_ GE545.out) | exact HB.out)) hb); clear HO_4; clear HO_546000; clear BK545; clear HB; have HO_4 := n0_; have HO_546000 := n1_; have HO552 := n2_; have HO555 := n3_; have BK545 := n4_; have HB := n5_; clear n0_ n1_ n2_ n3_ n4_ n5_; (try clear hb); (try clear hb2); (try clear hk); (try clear hi); (try clear ho0); (try clear ho1)) | ((with_reducible refine gate_dst (N := 9) rfl ?_); (try (refine gate_guard (by rfl) ?_; dsimp only)); refine box_event ?hg (N := 9) ?hd (cs := #[.slice none 0 0]) (t := 45) ?hr ?_; (case hd => rfl); (case hg => rfl); (case hr => first | (go_simp; done) | (go_simp; rfl)); intro gb557 hg w34 hbox hb; have n0_ := Aside0.mk (Kd.R_below (by (with_reducible repeat (first | apply Kd.R_alloc | apply Kd.R_drewN | apply Kd.R_drew)); exact HO_4.out) hb); have n1_ := Aside0.mk (Kd.R_below (by (with_reducible repeat (first | apply Kd.R_alloc | apply Kd.R_drewN | apply Kd.R_drew)); exact HO_546000.out) hb); have n2_ := Aside0.mk (Kd.R_below (by (with_reducible repeat (first | apply Kd.R_alloc | apply Kd.R_drewN | apply Kd.R_drew)); exact HO552.out) hb); have n3_ := Aside0.mk (Kd.R_below (by (with_reducible repeat (first | apply Kd.R_alloc | apply Kd.R_drewN | apply Kd.R_drew)); exact HO555.out) hb); have n4_ := Aside0.mk (blk_below (g := gb545) (o := .cells #[.slice Ao23 t539.length co23] 45 (0, 0)) (by (with_reducible repeat (first | refine blk_drewN ?_ _ | refine blk_drew ?_ | refine blk_alloc ?_ _)); exact BK545.out) hb); have n5_ := Aside0.mk (below_step (by repeat (first | (with_reducible first | exact HB.out | apply below_alloc | apply pw_below_drewN | apply below_drew1 | refine below_set ?_ GE545.out) | exact HB.out)) hb); have n6_ := Aside0.mk (hbox); have n7_ := Aside0.mk ((by rw [hg]; exact (below_size (by repeat (first | (with_reducible first | exact HB.out | apply below_alloc | apply pw_below_drewN | apply below_drew1 | refine below_set ?_ GE545.out) | exact HB.out))) : w.heap.size ≤ gb557)); have n8_ := Aside0.mk ((by rw [hg]; exact (below_size (by repeat (first | (with_reducible first | exact HB.out | apply below_alloc | apply pw_below_drewN | apply below_drew1 | refine below_set ?_ GE545.out) | exact HB.out))) : w.heap.size ≤ gb557)); have n9_ := Aside0.mk ((by rw [hg]; exact Nat.ne_of_lt (blk_lt (g := gb545) (o := .cells #[.slice Ao23 t539.length co23] 45 (0, 0)) (by (with_reducible repeat (first | refine blk_drewN ?_ _ | refine blk_drew ?_ | refine blk_alloc ?_ _)); exact BK545.out)) : gb545 ≠ gb557)); have n10_ := Aside0.mk ((by rw [hg]; exact Nat.ne_of_gt (blk_lt (g := gb545) (o := .cells #[.slice Ao23 t539.length co23] 45 (0, 0)) (by (with_reducible repeat (first | refine blk_drewN ?_ _ | refine blk_drew ?_ | refine blk_alloc ?_ _)); exact BK545.out)) : gb557 ≠ gb545)); clear HO_4; clear HO_546000; clear HO552; clear HO555; clear BK545; clear HB; have HO_4 := n0_; have HO_546000 := n1_; have HO552 := n2_; have HO555 := n3_; have BK545 := n4_; have HB := n5_; have BK557 := n6_; have GW557 := n7_; have GE557 := n8_; have NB545_557 := n9_; have NB557_545 := n10_; clear n0_ n1_ n2_ n3_ n4_ n5_ n6_ n7_ n8_ n9_ n10_; clear hb hbox hg; obtain ⟨Ao35, co35, eo35⟩ := Kd.R_slice HO552.out; subst eo35; have hnb36 := NB557_545.out; have hnc36 := NB545_557.out; have hcz37_0 : w34.cell? ⟨gb557, 0, none⟩ = some (.slice none 0 0) := (blk_cell BK557.out 0).trans rfl; have hfz37_0 := blk_frozen BK557.out 0))
        (try simp only [Act.put, List.setIfInBounds_toArray, List.set_cons_zero, List.set_cons_succ])
        go_cut [84] (fun v84 wc => ∃ (kq : Nat) (x84_30 : Bool), v84 = .bool x84_30 ∧ Aside0 (crossbarlaw10_TimersNextIsMinimum.j1 kq x7_1 x84_30 t539 = some r) ∧ Aside0 (kq ≤ k1) ∧ Aside0 (Kd.R k64 64 wc w.heap.size (fun k_ => some k_ ≠ ((.slice Ao35 t550.length co35) : Value).ownBlock) (.slice Ao23 t539.length co23) t539) ∧ Aside0 (Kd.R k64 64 wc w.heap.size (fun k_ => some k_ ≠ ((.slice Ao23 t539.length co23) : Value).ownBlock) (.slice Ao35 t550.length co35) t550) ∧ Aside0 (wc.heap[gb545]? = some (.cells #[(.slice Ao23 t539.length co23)] 45 (0, 0))) ∧ Aside0 (wc.heap[gb557]? = some (.cells #[(.slice Ao35 t550.length co35)] 45 (0, 0))) ∧ Aside0 (Below w.heap.size w wc))
        case first =>
         have H := HC31.out
         clear HC31
         by_cases c38 : t547 = true
         ·subst c38
          have H1 : (if t546 = x7_1 then (if t556 = 0 then (crossbarlaw10_TimersNextIsMinimum.j1 k1 x7_1 ((t553.length : Int) == 0) t539) else (crossbarlaw10_TimersNextIsMinimum.j1 k1 x7_1 true t539)) else (crossbarlaw10_TimersNextIsMinimum.j1 k1 x7_1 true t539)) = some r := by rw [if_pos rfl] at H; exact H
          clear H
          have H := H1
          clear H1
          by_cases c39 : t546 = x7_1
          ·rw [if_pos c39] at H
           have c39b0 : (t546 == x7_1) = true := beq_iff_eq.mpr c39
           have c39b1 : (t546 != x7_1) = false := bne_eq_false_iff_eq.mpr c39
           clear c39
           (first | rw [c39b0] | (simp only [i64_w, i32_w]; rw [c39b0]) | skip)
           by_cases c40 : t556 = 0
           ·rw [if_pos c40] at H
            have c40b0 : (t556 == 0) = true := beq_iff_eq.mpr c40
            have c40b1 : (t556 != 0) = false := bne_eq_false_iff_eq.mpr c40
            clear c40
            have H' := Aside0.mk H
            clear H
            obtain ⟨Ao41, co41, eo41⟩ := Kd.R_slice HO555.out
            subst eo41
            go_wp2
            go_meet
            case rel => exact ⟨_, (((t553.length : Int) == 0)), (by first | rfl | (simp; done) | (simp [*]; done)), H', ⟨by have := HK1.out; first | omega | exact Nat.le_refl _⟩, ⟨by (with_reducible repeat (first | apply Kd.R_alloc | apply Kd.R_drewN | apply Kd.R_drew)); exact Kd.R_mono (Kd.R_far (p := ⟨gb557, 0, none⟩) (Kd.R_types HO_546000.out BK557.out (by decide)) (fun _ hk => hk.2) (.slice Ao35 t550.length co35)) (fun _ hk => hk.1.2)⟩, ⟨by (with_reducible repeat (first | apply Kd.R_alloc | apply Kd.R_drewN | apply Kd.R_drew)); exact Kd.R_mono (Kd.R_far (p := ⟨gb557, 0, none⟩) (Kd.R_types HO552.out BK557.out (by decide)) (fun _ hk => hk.2) (.slice Ao35 t550.length co35)) (fun _ hk => hk.1.2)⟩, ⟨by (with_reducible repeat (first | refine blk_drewN ?_ _ | refine blk_drew ?_ | refine blk_alloc ?_ _)); refine blk_far ?_ NB545_557.out _; (with_reducible repeat (first | refine blk_drewN ?_ _ | refine blk_drew ?_ | refine blk_alloc ?_ _)); exact BK545.out⟩, ⟨by (with_reducible repeat (first | refine blk_drewN ?_ _ | refine blk_drew ?_ | refine blk_alloc ?_ _)); refine blk_put (cs := #[.slice none 0 0]) ?_ 0 _ rfl; (with_reducible repeat (first | refine blk_drewN ?_ _ | refine blk_drew ?_ | refine blk_alloc ?_ _)); exact BK557.out⟩, ⟨by repeat (first | (with_reducible first | exact HB.out | apply below_alloc | apply pw_below_drewN | apply below_drew1 | refine below_set ?_ GE545.out | refine below_set ?_ GE557.out) | exact HB.out)⟩⟩
           ·rw [if_neg c40] at H
            have c40b0 : (t556 == 0) = false := beq_eq_false_iff_ne.mpr c40
            have c40b1 : (t556 != 0) = true := bne_iff_ne.mpr c40
            have H' := Aside0.mk H
            clear H
            go_wp2
            go_meet
            case rel => exact ⟨_, (true), (by first | rfl | (simp; done) | (simp [*]; done)), H', ⟨by have := HK1.out; first | omega | exact Nat.le_refl _⟩, ⟨by (with_reducible repeat (first | apply Kd.R_alloc | apply Kd.R_drewN | apply Kd.R_drew)); exact Kd.R_mono (Kd.R_far (p := ⟨gb557, 0, none⟩) (Kd.R_types HO_546000.out BK557.out (by decide)) (fun _ hk => hk.2) (.slice Ao35 t550.length co35)) (fun _ hk => hk.1.2)⟩, ⟨by (with_reducible repeat (first | apply Kd.R_alloc | apply Kd.R_drewN | apply Kd.R_drew)); exact Kd.R_mono (Kd.R_far (p := ⟨gb557, 0, none⟩) (Kd.R_types HO552.out BK557.out (by decide)) (fun _ hk => hk.2) (.slice Ao35 t550.length co35)) (fun _ hk => hk.1.2)⟩, ⟨by (with_reducible repeat (first | refine blk_drewN ?_ _ | refine blk_drew ?_ | refine blk_alloc ?_ _)); refine blk_far ?_ NB545_557.out _; (with_reducible repeat (first | refine blk_drewN ?_ _ | refine blk_drew ?_ | refine blk_alloc ?_ _)); exact BK545.out⟩, ⟨by (with_reducible repeat (first | refine blk_drewN ?_ _ | refine blk_drew ?_ | refine blk_alloc ?_ _)); refine blk_put (cs := #[.slice none 0 0]) ?_ 0 _ rfl; (with_reducible repeat (first | refine blk_drewN ?_ _ | refine blk_drew ?_ | refine blk_alloc ?_ _)); exact BK557.out⟩, ⟨by repeat (first | (with_reducible first | exact HB.out | apply below_alloc | apply pw_below_drewN | apply below_drew1 | refine below_set ?_ GE545.out | refine below_set ?_ GE557.out) | exact HB.out)⟩⟩
          ·rw [if_neg c39] at H
           have c39b0 : (t546 == x7_1) = false := beq_eq_false_iff_ne.mpr c39
           have c39b1 : (t546 != x7_1) = true := bne_iff_ne.mpr c39
           (first | rw [c39b0] | (simp only [i64_w, i32_w]; rw [c39b0]) | skip)
           have H' := Aside0.mk H
           clear H
           go_wp2
           go_meet
           case rel => exact ⟨_, (true), (by first | rfl | (simp; done) | (simp [*]; done)), H', ⟨by have := HK1.out; first | omega | exact Nat.le_refl _⟩, ⟨by (with_reducible repeat (first | apply Kd.R_alloc | apply Kd.R_drewN | apply Kd.R_drew)); exact Kd.R_mono (Kd.R_far (p := ⟨gb557, 0, none⟩) (Kd.R_types HO_546000.out BK557.out (by decide)) (fun _ hk => hk.2) (.slice Ao35 t550.length co35)) (fun _ hk => hk.1.2)⟩, ⟨by (with_reducible repeat (first | apply Kd.R_alloc | apply Kd.R_drewN | apply Kd.R_drew)); exact Kd.R_mono (Kd.R_far (p := ⟨gb557, 0, none⟩) (Kd.R_types HO552.out BK557.out (by decide)) (fun _ hk => hk.2) (.slice Ao35 t550.length co35)) (fun _ hk => hk.1.2)⟩, ⟨by (with_reducible repeat (first | refine blk_drewN ?_ _ | refine blk_drew ?_ | refine blk_alloc ?_ _)); refine blk_far ?_ NB545_557.out _; (with_reducible repeat (first | refine blk_drewN ?_ _ | refine blk_drew ?_ | refine blk_alloc ?_ _)); exact BK545.out⟩, ⟨by (with_reducible repeat (first | refine blk_drewN ?_ _ | refine blk_drew ?_ | refine blk_alloc ?_ _)); refine blk_put (cs := #[.slice none 0 0]) ?_ 0 _ rfl; (with_reducible repeat (first | refine blk_drewN ?_ _ | refine blk_drew ?_ | refine blk_alloc ?_ _)); exact BK557.out⟩, ⟨by repeat (first | (with_reducible first | exact HB.out | apply below_alloc | apply pw_below_drewN | apply below_drew1 | refine below_set ?_ GE545.out | refine below_set ?_ GE557.out) | exact HB.out)⟩⟩
         ·replace c38 := Bool.eq_false_iff.mpr c38
          subst c38
          have H1 : (crossbarlaw10_TimersNextIsMinimum.j1 k1 x7_1 true t539) = some r := by rw [if_neg (show ¬ (false = true) by decide)] at H; exact H
          clear H
          have H := H1
          clear H1
          have H' := Aside0.mk H
          clear H
          go_wp2
          go_meet
          case rel => exact ⟨_, (true), (by first | rfl | (simp; done) | (simp [*]; done)), H', ⟨by have := HK1.out; first | omega | exact Nat.le_refl _⟩, ⟨by (with_reducible repeat (first | apply Kd.R_alloc | apply Kd.R_drewN | apply Kd.R_drew)); exact Kd.R_mono (Kd.R_far (p := ⟨gb557, 0, none⟩) (Kd.R_types HO_546000.out BK557.out (by decide)) (fun _ hk => hk.2) (.slice Ao35 t550.length co35)) (fun _ hk => hk.1.2)⟩, ⟨by (with_reducible repeat (first | apply Kd.R_alloc | apply Kd.R_drewN | apply Kd.R_drew)); exact Kd.R_mono (Kd.R_far (p := ⟨gb557, 0, none⟩) (Kd.R_types HO552.out BK557.out (by decide)) (fun _ hk => hk.2) (.slice Ao35 t550.length co35)) (fun _ hk => hk.1.2)⟩, ⟨by (with_reducible repeat (first | refine blk_drewN ?_ _ | refine blk_drew ?_ | refine blk_alloc ?_ _)); refine blk_far ?_ NB545_557.out _; (with_reducible repeat (first | refine blk_drewN ?_ _ | refine blk_drew ?_ | refine blk_alloc ?_ _)); exact BK545.out⟩, ⟨by (with_reducible repeat (first | refine blk_drewN ?_ _ | refine blk_drew ?_ | refine blk_alloc ?_ _)); refine blk_put (cs := #[.slice none 0 0]) ?_ 0 _ rfl; (with_reducible repeat (first | refine blk_drewN ?_ _ | refine blk_drew ?_ | refine blk_alloc ?_ _)); exact BK557.out⟩, ⟨by repeat (first | (with_reducible first | exact HB.out | apply below_alloc | apply pw_below_drewN | apply below_drew1 | refine below_set ?_ GE545.out | refine below_set ?_ GE557.out) | exact HB.out)⟩⟩
        case rest =>
         clear HC31
         try clear c1
         try clear c2
         try clear p2
         try clear c3
         try clear c4
         try clear c4b0
         try clear c4b1
         try clear p5
         try clear q5
         try clear hx5
         try clear qi5
         try clear p6
         try clear c8
         try clear c8b0
         try clear c8b1
         try clear c8b2
         try clear c9
         try clear c9b0
         try clear c9b1
         try clear c10
         try clear c14
         try clear c19
         try clear c19b0
         try clear c19b1
         try clear c27
         try clear c27b0
         try clear c28
         try clear c28b0
         try clear c32
         try clear c36
         try clear c38
         try clear c39
         try clear c39b0
         try clear c39b1
         try clear c40
         try clear c40b0
         try clear c40b1
         try clear hcz15_0
         try clear hcz18_0
         try clear hcz24_0
         try clear hcz32_0
         try clear hcz37_0
         try clear hfz15_0
         try clear hfz18_0
         try clear hfz24_0
         try clear hfz32_0
         try clear hfz37_0
         try clear hx548_0
         try clear hx548_1
         try clear hx549_0
         try clear hx549_1
         try clear p2
         try clear p5
         try clear p548
         try clear p549
         try clear q5
         try clear q548
         try clear q549
         obtain ⟨kq, x84_30, rfl, HA, HJ30, HO_546000, HO_558000, BK545, BK557, HB⟩ := hcut
         cases kq with
         | zero => exact absurd HA.out (by simp [crossbarlaw10_TimersNextIsMinimum.j1])
         | succ kj30 =>
          have H := HA.out
          clear HA
          simp only [crossbarlaw10_TimersNextIsMinimum.j1] at H
          by_cases c42 : x84_30 = true
          ·subst c42
           have H1 : (some false) = some r := by rw [if_pos rfl] at H; exact H
           clear H
           have H := H1
           clear H1
           exact absurd ((Option.some.inj H).trans HT_TRUE.out) (by simp)
          ·replace c42 := Bool.eq_false_iff.mpr c42
           subst c42
           have H1 : (if x7_1 = 0 then (some true) else ((timers_Expire.f t539 (wrap64 (x7_1 - 1))).bind fun bt558 => (if bt558.2.2 = 0 then (if (bt558.2.1.length : Int) = 0 then ((crossbarref10_Same.f kj30 bt558.1 t539).bind fun t566 => (some t566)) else (some false)) else (some false)))) = some r := by rw [if_neg (show ¬ (false = true) by decide)] at H; exact H
           clear H
           have H := H1
           clear H1
           by_cases c43 : x7_1 = 0
           ·rw [if_pos c43] at H
            have c43b0 : (x7_1 == 0) = true := beq_iff_eq.mpr c43
            have c43b1 : (x7_1 != 0) = false := bne_eq_false_iff_eq.mpr c43
            clear c43
            obtain rfl := Option.some.inj H
            go_wp2
            go_ret
            exact ⟨by first | rfl | (simp [errW_none, errW_some] <;> rfl) | (simp [*, errW_none, errW_some] <;> rfl), by repeat (first | (with_reducible first | exact HB.out | apply below_alloc | apply pw_below_drewN | apply below_drew1 | refine below_set ?_ GE545.out | refine below_set ?_ GE557.out) | exact HB.out)⟩
           ·rw [if_neg c43] at H
            have c43b0 : (x7_1 == 0) = false := beq_eq_false_iff_ne.mpr c43
            have c43b1 : (x7_1 != 0) = true := bne_iff_ne.mpr c43
            replace H := Option.bind_eq_some_iff.mp H
            obtain ⟨⟨t558, t561, t564⟩, A440, H⟩ := H
            replace H : (if t564 = 0 then (if (t561.length : Int) = 0 then ((crossbarref10_Same.f kj30 t558 t539).bind fun t566 => (some t566)) else (some false)) else (some false)) = some r := H
            have A44 := Aside0.mk A440
            clear A440
            by_cases c45 : t564 = 0
            ·rw [if_pos c45] at H
             have c45b0 : (t564 == 0) = true := beq_iff_eq.mpr c45
             have c45b1 : (t564 != 0) = false := bne_eq_false_iff_eq.mpr c45
             clear c45
             by_cases c46 : (t561.length : Int) = 0
             ·rw [if_pos c46] at H
              have c46b0 : ((t561.length : Int) == 0) = true := beq_iff_eq.mpr c46
              have c46b1 : ((t561.length : Int) != 0) = false := bne_eq_false_iff_eq.mpr c46
              clear c46
              replace H := Option.bind_eq_some_iff.mp H
              obtain ⟨t566, A470, H⟩ := H
              replace H : (some t566) = some r := H
              have A47 := Aside0.mk A470
              clear A470
              obtain rfl := Option.some.inj H
              have hnb48 := NB545_557.out
              have hnc48 := NB557_545.out
              have hcz49_0 : wc.cell? ⟨gb545, 0, none⟩ = some (.slice Ao23 t539.length co23) := (blk_cell BK545.out 0).trans rfl
              have hfz49_0 := blk_frozen BK545.out 0
              go_wp2_with (first | ((with_reducible refine gate_callee (f := 43) rfl ?_); refine goesL_ (some 91) rfl rfl Try.func43 (by kernel_rfl) rfl #[.agg #[.slice Ao23 t539.length co23], .int .i64 (wrap64 (x7_1 - 1))] rfl (by (try simp only [List.map_toArray, List.map_cons, List.map_nil]); first | done | rfl | (simp only [List.length_drop, List.length_take]; rfl)) ?_; (with_reducible refine (timers_Expire.calls _ _ t539 (wrap64 (x7_1 - 1)) t558 t561 t564 _ ?side1 ?side2 A44.out).mono ?_); (case side1 => repeat (first | exact (Kd.R_reads' HO_546000.out).2.2 | (with_reducible refine Kd.C_alloc ?_ _) | (with_reducible refine Kd.C_drewN ?_ _) | (with_reducible refine Kd.C_drew ?_))); (case side2 => exact (Kd.R_reads' HO_546000.out).2.1); rintro e w50 ⟨v559, v562, rfl, ho0, ho1, hb⟩; refine ⟨_, rfl, ?_⟩; have n0_ := Aside0.mk (Kd.R_elder' (by (with_reducible repeat (first | apply Kd.R_alloc | apply Kd.R_drewN | apply Kd.R_drew)); exact HO_546000.out) (Kd.R_base ho0) hb); have n1_ := Aside0.mk (Kd.R_elder' (by (with_reducible repeat (first | apply Kd.R_alloc | apply Kd.R_drewN | apply Kd.R_drew)); exact HO_558000.out) (Kd.R_base ho0) hb); have n2_ := Aside0.mk (Kd.R_lower (Kd.R_new' (Kd.R_new' ho0 (Kd.R_lt (by (with_reducible repeat (first | apply Kd.R_alloc | apply Kd.R_drewN | apply Kd.R_drew)); exact HO_546000.out))) (Kd.R_lt (by (with_reducible repeat (first | apply Kd.R_alloc | apply Kd.R_drewN | apply Kd.R_drew)); exact HO_558000.out))) (below_size (by repeat (first | (with_reducible first | exact HB.out | apply below_alloc | apply pw_below_drewN | apply below_drew1 | refine below_set ?_ GE545.out | refine below_set ?_ GE557.out) | exact HB.out)))); have n3_ := Aside0.mk (Kd.R_lower ho1 (below_size (by repeat (first | (with_reducible first | exact HB.out | apply below_alloc | apply pw_below_drewN | apply below_drew1 | refine below_set ?_ GE545.out | refine below_set ?_ GE557.out) | exact HB.out)))); have n4_ := Aside0.mk (blk_below (g := gb545) (o := .cells #[.slice Ao23 t539.length co23] 45 (0, 0)) (by (with_reducible repeat (first | refine blk_drewN ?_ _ | refine blk_drew ?_ | refine blk_alloc ?_ _)); exact BK545.out) hb); have n5_ := Aside0.mk (blk_below (g := gb557) (o := .cells #[.slice Ao35 t550.length co35] 45 (0, 0)) (by (with_reducible repeat (first | refine blk_drewN ?_ _ | refine blk_drew ?_ | refine blk_alloc ?_ _)); exact BK557.out) hb); have n6_ := Aside0.mk (below_step (by repeat (first | (with_reducible first | exact HB.out | apply below_alloc | apply pw_below_drewN | apply below_drew1 | refine below_set ?_ GE545.out | refine below_set ?_ GE557.out) | exact HB.out)) hb); clear HO_546000; clear HO_558000; clear BK545; clear BK557; clear HB; have HO_546000 := n0_; have HO_558000 := n1_; have HO560 := n2_; have HO563 := n3_; have BK545 := n4_; have BK557 := n5_; have HB := n6_; clear n0_ n1_ n2_ n3_ n4_ n5_ n6_; (try clear hb); (try clear hb2); (try clear hk); (try clear hi); (try clear ho0); (try clear ho1)) | ((with_reducible refine gate_dst (N := 12) rfl ?_); (try (refine gate_guard (by rfl) ?_; dsimp only)); refine box_event ?hg (N := 12) ?hd (cs := #[.slice none 0 0]) (t := 45) ?hr ?_; (case hd => rfl); (case hg => rfl); (case hr => first | (go_simp; done) | (go_simp; rfl)); intro gb565 hg w51 hbox hb; have n0_ := Aside0.mk (Kd.R_below (by (with_reducible repeat (first | apply Kd.R_alloc | apply Kd.R_drewN | apply Kd.R_drew)); exact HO_546000.out) hb); have n1_ := Aside0.mk (Kd.R_below (by (with_reducible repeat (first | apply Kd.R_alloc | apply Kd.R_drewN | apply Kd.R_drew)); exact HO_558000.out) hb); have n2_ := Aside0.mk (Kd.R_below (by (with_reducible repeat (first | apply Kd.R_alloc | apply Kd.R_drewN | apply Kd.R_drew)); exact HO560.out) hb); have n3_ := Aside0.mk (Kd.R_below (by (with_reducible repeat (first | apply Kd.R_alloc | apply Kd.R_drewN | apply Kd.R_drew)); exact HO563.out) hb); have n4_ := Aside0.mk (blk_below (g := gb545) (o := .cells #[.slice Ao23 t539.length co23] 45 (0, 0)) (by (with_reducible repeat (first | refine blk_drewN ?_ _ | refine blk_drew ?_ | refine blk_alloc ?_ _)); exact BK545.out) hb); have n5_ := Aside0.mk (blk_below (g := gb557) (o := .cells #[.slice Ao35 t550.length co35] 45 (0, 0)) (by (with_reducible repeat (first | refine blk_drewN ?_ _ | refine blk_drew ?_ | refine blk_alloc ?_ _)); exact BK557.out) hb); have n6_ := Aside0.mk (below_step (by repeat (first | (with_reducible first | exact HB.out | apply below_alloc | apply pw_below_drewN | apply below_drew1 | refine below_set ?_ GE545.out | refine below_set ?_ GE557.out) | exact HB.out)) hb); have n7_ := Aside0.mk (hbox); have n8_ := Aside0.mk ((by rw [hg]; exact (below_size (by repeat (first | (with_reducible first | exact HB.out | apply below_alloc | apply pw_below_drewN | apply below_drew1 | refine below_set ?_ GE545.out | refine below_set ?_ GE557.out) | exact HB.out))) : w.heap.size ≤ gb565)); have n9_ := Aside0.mk ((by rw [hg]; exact (below_size (by repeat (first | (with_reducible first | exact HB.out | apply below_alloc | apply pw_below_drewN | apply below_drew1 | refine below_set ?_ GE545.out | refine below_set ?_ GE557.out) | exact HB.out))) : w.heap.size ≤ gb565)); have n10_ := Aside0.mk ((by rw [hg]; exact Nat.ne_of_lt (blk_lt (g := gb545) (o := .cells #[.slice Ao23 t539.length co23] 45 (0, 0)) (by (with_reducible repeat (first | refine blk_drewN ?_ _ | refine blk_drew ?_ | refine blk_alloc ?_ _)); exact BK545.out)) : gb545 ≠ gb565)); have n11_ := Aside0.mk ((by rw [hg]; exact Nat.ne_of_gt (blk_lt (g := gb545) (o := .cells #[.slice Ao23 t539.length co23] 45 (0, 0)) (by (with_reducible repeat (first | refine blk_drewN ?_ _ | refine blk_drew ?_ | refine blk_alloc ?_ _)); exact BK545.out)) : gb565 ≠ gb545)); have n12_ := Aside0.mk ((by rw [hg]; exact Nat.ne_of_lt (blk_lt (g := gb557) (o := .cells #[.slice Ao35 t550.length co35] 45 (0, 0)) (by (with_reducible repeat (first | refine blk_drewN ?_ _ | refine blk_drew ?_ | refine blk_alloc ?_ _)); exact BK557.out)) : gb557 ≠ gb565)); have n13_ := Aside0.mk ((by rw [hg]; exact Nat.ne_of_gt (blk_lt (g := gb557) (o := .cells #[.slice Ao35 t550.length co35] 45 (0, 0)) (by (with_reducible repeat (first | refine blk_drewN ?_ _ | refine blk_drew ?_ | refine blk_alloc ?_ _)); exact BK557.out)) : gb565 ≠ gb557)); clear HO_546000; clear HO_558000; clear HO560; clear HO563; clear BK545; clear BK557; clear HB; have HO_546000 := n0_; have HO_558000 := n1_; have HO560 := n2_; have HO563 := n3_; have BK545 := n4_; have BK557 := n5_; have HB := n6_; have BK565 := n7_; have GW565 := n8_; have GE565 := n9_; have NB545_565 := n10_; have NB565_545 := n11_; have NB557_565 := n12_; have NB565_557 := n13_; clear n0_ n1_ n2_ n3_ n4_ n5_ n6_ n7_ n8_ n9_ n10_ n11_ n12_ n13_; clear hb hbox hg; obtain ⟨Ao52, co52, eo52⟩ := Kd.R_slice HO560.out; subst eo52; have hnb53 := NB565_545.out; have hnc53 := NB545_565.out; have hnb54 := NB565_557.out; have hnc54 := NB557_565.out; have hcz55_0 : w51.cell? ⟨gb565, 0, none⟩ = some (.slice none 0 0) := (blk_cell BK565.out 0).trans rfl; have hfz55_0 := blk_frozen BK565.out 0; obtain ⟨Ao56, co56, eo56⟩ := Kd.R_slice HO563.out; subst eo56; have hcz57_0 : w51.cell? ⟨gb545, 0, none⟩ = some (.slice Ao23 t539.length co23) := (blk_cell BK545.out 0).trans rfl; have hfz57_0 := blk_frozen BK545.out 0) | (go_at_call 42; (with_reducible refine (crossbarref10_Same.calls kj30 _ _ t558 _ _ t539 t566 _ ?side1 ?side2 ?side3 ?side4 A47.out).mono ?_); (case side1 => refine (Kd.R_reads' (e := 64) (base := w.heap.size) (ok := fun k_ => ((True ∧ some k_ ≠ (.slice Ao23 t539.length co23 : Value).ownBlock) ∧ some k_ ≠ (.slice Ao35 t550.length co35 : Value).ownBlock)) (n := t558.length) (c := co52) ?_).2.2; exact (by (with_reducible repeat (first | apply Kd.R_alloc | apply Kd.R_drewN | apply Kd.R_drew)); exact (Kd.R_mono (Kd.R_far (p := ⟨gb565, 0, none⟩) (Kd.R_types HO560.out BK565.out (by decide)) (fun _ hk => hk.2) (.slice Ao52 t558.length co52)) (fun _ h_ => h_.1)))); (case side2 => exact (Kd.R_reads' HO560.out).2.1); (case side3 => refine (Kd.R_reads' (e := 64) (base := w.heap.size) (ok := fun k_ => (some k_ ≠ (.slice Ao35 t550.length co35 : Value).ownBlock ∧ some k_ ≠ (.slice Ao52 t558.length co52 : Value).ownBlock)) (n := t539.length) (c := co23) ?_).2.2; exact (by (with_reducible repeat (first | apply Kd.R_alloc | apply Kd.R_drewN | apply Kd.R_drew)); exact (Kd.R_mono (Kd.R_far (p := ⟨gb565, 0, none⟩) (Kd.R_types HO_546000.out BK565.out (by decide)) (fun _ hk => hk.2) (.slice Ao52 t558.length co52)) (fun _ h_ => h_.1)))); (case side4 => exact (Kd.R_reads' HO_546000.out).2.1); rintro e w58 ⟨rfl, hb⟩; have n0_ := Aside0.mk (Kd.R_below (by (with_reducible repeat (first | apply Kd.R_alloc | apply Kd.R_drewN | apply Kd.R_drew)); exact (Kd.R_mono (Kd.R_far (p := ⟨gb565, 0, none⟩) (Kd.R_types HO_546000.out BK565.out (by decide)) (fun _ hk => hk.2) (.slice Ao52 t558.length co52)) (fun _ h_ => h_.1))) hb); have n1_ := Aside0.mk (Kd.R_below (by (with_reducible repeat (first | apply Kd.R_alloc | apply Kd.R_drewN | apply Kd.R_drew)); exact (Kd.R_mono (Kd.R_far (p := ⟨gb565, 0, none⟩) (Kd.R_types HO_558000.out BK565.out (by decide)) (fun _ hk => hk.2) (.slice Ao52 t558.length co52)) (fun _ h_ => h_.1))) hb); have n2_ := Aside0.mk (Kd.R_below (by (with_reducible repeat (first | apply Kd.R_alloc | apply Kd.R_drewN | apply Kd.R_drew)); exact (Kd.R_mono (Kd.R_far (p := ⟨gb565, 0, none⟩) (Kd.R_types HO560.out BK565.out (by decide)) (fun _ hk => hk.2) (.slice Ao52 t558.length co52)) (fun _ h_ => h_.1))) hb); have n3_ := Aside0.mk (Kd.R_below (by (with_reducible repeat (first | apply Kd.R_alloc | apply Kd.R_drewN | apply Kd.R_drew)); exact (Kd.R_mono (Kd.R_far (p := ⟨gb565, 0, none⟩) (Kd.R_types HO563.out BK565.out (by decide)) (fun _ hk => hk.2) (.slice Ao52 t558.length co52)) (fun _ h_ => h_.1))) hb); have n4_ := Aside0.mk (blk_below (g := gb545) (o := .cells #[.slice Ao23 t539.length co23] 45 (0, 0)) (by (with_reducible repeat (first | refine blk_drewN ?_ _ | refine blk_drew ?_ | refine blk_alloc ?_ _)); refine blk_far ?_ NB545_565.out _; (with_reducible repeat (first | refine blk_drewN ?_ _ | refine blk_drew ?_ | refine blk_alloc ?_ _)); exact BK545.out) hb); have n5_ := Aside0.mk (blk_below (g := gb557) (o := .cells #[.slice Ao35 t550.length co35] 45 (0, 0)) (by (with_reducible repeat (first | refine blk_drewN ?_ _ | refine blk_drew ?_ | refine blk_alloc ?_ _)); refine blk_far ?_ NB557_565.out _; (with_reducible repeat (first | refine blk_drewN ?_ _ | refine blk_drew ?_ | refine blk_alloc ?_ _)); exact BK557.out) hb); have n6_ := Aside0.mk (blk_below (g := gb565) (o := .cells #[.slice Ao52 t558.length co52] 45 (0, 0)) (by (with_reducible repeat (first | refine blk_drewN ?_ _ | refine blk_drew ?_ | refine blk_alloc ?_ _)); refine blk_put (cs := #[.slice none 0 0]) ?_ 0 _ rfl; (with_reducible repeat (first | refine blk_drewN ?_ _ | refine blk_drew ?_ | refine blk_alloc ?_ _)); exact BK565.out) hb); have n7_ := Aside0.mk (below_step (by repeat (first | (with_reducible first | exact HB.out | apply below_alloc | apply pw_below_drewN | apply below_drew1 | refine below_set ?_ GE545.out | refine below_set ?_ GE557.out | refine below_set ?_ GE565.out) | exact HB.out)) hb); clear HO_546000; clear HO_558000; clear HO560; clear HO563; clear BK545; clear BK557; clear BK565; clear HB; have HO_546000 := n0_; have HO_558000 := n1_; have HO560 := n2_; have HO563 := n3_; have BK545 := n4_; have BK557 := n5_; have BK565 := n6_; have HB := n7_; clear n0_ n1_ n2_ n3_ n4_ n5_ n6_ n7_; (try clear hb); (try clear hb2); (try clear hk); (try clear hi)))
              go_ret
              exact ⟨by first | rfl | (simp [errW_none, errW_some] <;> rfl) | (simp [*, errW_none, errW_some] <;> rfl), by repeat (first | (with_reducible first | exact HB.out | apply below_alloc | apply pw_below_drewN | apply below_drew1 | refine below_set ?_ GE545.out | refine below_set ?_ GE557.out | refine below_set ?_ GE565.out) | exact HB.out)⟩
             ·rw [if_neg c46] at H
              have c46b0 : ((t561.length : Int) == 0) = false := beq_eq_false_iff_ne.mpr c46
              have c46b1 : ((t561.length : Int) != 0) = true := bne_iff_ne.mpr c46
              have c46b2 : ¬ (t561 = []) := fun h_ => c46 (by rw [h_]; rfl)
              exact absurd ((Option.some.inj H).trans HT_TRUE.out) (by simp)
            ·rw [if_neg c45] at H
             have c45b0 : (t564 == 0) = false := beq_eq_false_iff_ne.mpr c45
             have c45b1 : (t564 != 0) = true := bne_iff_ne.mpr c45
             exact absurd ((Option.some.inj H).trans HT_TRUE.out) (by simp)
    ·rw [if_neg c19] at H
     exact absurd H (by simp)
 ·replace c3 := Bool.eq_false_iff.mpr c3
  subst c3
  have H1 : (some false) = some r := by rw [if_neg (show ¬ (false = true) by decide)] at H; exact H
  clear H
  have H := H1
  clear H1
  exact absurd ((Option.some.inj H).trans HT_TRUE.out) (by simp)

end Go.Proofs.Ytldpacphackdjaa.Print
