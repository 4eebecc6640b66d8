/- That the call of function 15 (crossbarlaw10_TimersExpireSplits) answers what the Lean function of the same name answers, at every input at which that one answers. (Written by a program of the session, which drives the kit's printer.) -/
import Derived.Test.YtldpacphackdjaaHTExpire
import Derived.Test.YtldpacphackdjaaK0
import Derived.Test.YtldpacphackdjaaFA
import Derived.Test.YtldpacphackdjaaF32
import Derived.Test.YtldpacphackdjaaFB
namespace Go.Proofs.Ytldpacphackdjaa.Print
open Go.RowKit Go.Proofs.YtldpacphackdjaaW.PrintWords Go.Proofs.YtldpacphackdjaaW.PrintLast Go.Proofs.YtldpacphackdjaaW.PrintMore
attribute [local go_sem] max2_int min2_int max_two min_two max_three min_three max_four min_four   -- for this text's walks alone
set_option linter.unusedVariables false
set_option linter.unusedSimpArgs false

/-! ### crossbarlaw10_TimersExpireSplits: function 15 -/
mutual
def crossbarlaw10_TimersExpireSplits.j0 : Nat → Int → Int → Bool → List (S64) → Option (Bool)
 | 0, _, _, _, _ => none
 | k + 1, x1, x2, x26, x568000 => if x26 = true then (some true) else ((timers_Expire.f x568000 x1).bind fun bt570 => ((timers_Expire.f bt570.1 x2).bind fun bt578 => ((timers_Expire.f x568000 x2).bind fun bt586 => (if bt570.2.2 = 0 then (crossbarlaw10_TimersExpireSplits.j1 k bt570.2.1 bt570.2.2 bt578.2.1 bt578.2.2 bt586.2.1 bt586.2.2 (bt586.2.2 != 0) bt578.1 bt586.1) else (crossbarlaw10_TimersExpireSplits.j1 k bt570.2.1 bt570.2.2 bt578.2.1 bt578.2.2 bt586.2.1 bt586.2.2 true bt578.1 bt586.1)))))
def crossbarlaw10_TimersExpireSplits.j1 : Nat → List Int → Int → List Int → Int → List Int → Int → Bool → List (S64) → List (S64) → Option (Bool)
 | 0, _, _, _, _, _, _, _, _, _ => none
 | k + 1, x8, x9, x11, x12, x14, x15, x53, x586000, x594000 => if x53 = true then (if x9 = 0 then (if x15 = 0 then (some false) else (some ((x14.length : Int) == 0))) else (if (x8.length : Int) = 0 then (some true) else (if x15 = 0 then (some false) else (some ((x14.length : Int) == 0))))) else ((some (([] : List Int) : List Int)).bind fun y594 => (if y594.length + x8.length < 17592186044416 then ((some (y594 ++ x8 : List Int)).bind fun y597 => (if y597.length + x11.length < 17592186044416 then (if x12 = 0 then ((crossbarref10_Same.f k x586000 x594000).bind fun t603 => (if t603 = true then ((crossbarref10_Ints.f k (y597 ++ x11) x14).bind fun t604 => (some t604)) else (some false))) else (some false)) else (none))) else (none)))
end
def crossbarlaw10_TimersExpireSplits.f (k : Nat) (l0_0 : List (S64)) (a1 : Int) (a2 : Int) : Option (Bool) := (crossbarlaw10_sane.f k).bind fun t568 => (if t568 = true then ((crossbarref10_Few.f l0_0).bind fun t569 => (if t569 = true then (crossbarlaw10_TimersExpireSplits.j0 k a1 a2 (decide (a1 > a2)) l0_0) else (crossbarlaw10_TimersExpireSplits.j0 k a1 a2 true l0_0))) else (some false))
theorem crossbarlaw10_TimersExpireSplits.mono_l : ∀ k, (∀ y0 y1 y2 y3, LeO (crossbarlaw10_TimersExpireSplits.j0 k y0 y1 y2 y3) (crossbarlaw10_TimersExpireSplits.j0 (k + 1) y0 y1 y2 y3)) ∧ (∀ y0 y1 y2 y3 y4 y5 y6 y7 y8, LeO (crossbarlaw10_TimersExpireSplits.j1 k y0 y1 y2 y3 y4 y5 y6 y7 y8) (crossbarlaw10_TimersExpireSplits.j1 (k + 1) y0 y1 y2 y3 y4 y5 y6 y7 y8))
 | 0 => ⟨fun _ _ _ _ r h => by simp [crossbarlaw10_TimersExpireSplits.j0] at h, fun _ _ _ _ _ _ _ _ _ r h => by simp [crossbarlaw10_TimersExpireSplits.j1] at h⟩
 | k + 1 => by
  obtain ⟨ih0, ih1⟩ := crossbarlaw10_TimersExpireSplits.mono_l k
  refine ⟨?_, ?_⟩
  ·intro y0 y1 y2 y3
   unfold crossbarlaw10_TimersExpireSplits.j0
   repeat' first
   | (with_reducible exact ih0 _ _ _ _)
   | (with_reducible exact ih1 _ _ _ _ _ _ _ _ _)
   | (with_reducible exact crossbarlaw10_sane.mono _)
   | (with_reducible exact crossbarref10_Ints.mono _ _ _)
   | (with_reducible exact crossbarref10_Same.mono _ _ _)
   | (with_reducible exact LeO.refl _)
   | (with_reducible exact LeO.none _)
   | (with_reducible refine LeO.ite ?_ ?_)
   | (with_reducible refine LeO.bind ?_ (fun _ => ?_))
   | exact ih0 _ _ _ _
   | exact ih1 _ _ _ _ _ _ _ _ _
   | exact crossbarlaw10_sane.mono _
   | exact crossbarref10_Ints.mono _ _ _
   | exact crossbarref10_Same.mono _ _ _
   | exact LeO.none _
   | refine LeO.ite ?_ ?_
   | refine LeO.bind ?_ (fun _ => ?_)
  ·intro y0 y1 y2 y3 y4 y5 y6 y7 y8
   unfold crossbarlaw10_TimersExpireSplits.j1
   repeat' first
   | (with_reducible exact ih0 _ _ _ _)
   | (with_reducible exact ih1 _ _ _ _ _ _ _ _ _)
   | (with_reducible exact crossbarlaw10_sane.mono _)
   | (with_reducible exact crossbarref10_Ints.mono _ _ _)
   | (with_reducible exact crossbarref10_Same.mono _ _ _)
   | (with_reducible exact LeO.refl _)
   | (with_reducible exact LeO.none _)
   | (with_reducible refine LeO.ite ?_ ?_)
   | (with_reducible refine LeO.bind ?_ (fun _ => ?_))
   | exact ih0 _ _ _ _
   | exact ih1 _ _ _ _ _ _ _ _ _
   | exact crossbarlaw10_sane.mono _
   | exact crossbarref10_Ints.mono _ _ _
   | exact crossbarref10_Same.mono _ _ _
   | exact LeO.none _
   | refine LeO.ite ?_ ?_
   | refine LeO.bind ?_ (fun _ => ?_)
theorem crossbarlaw10_TimersExpireSplits.mono : ∀ a0 a1 a2 k, LeO (crossbarlaw10_TimersExpireSplits.f k a0 a1 a2) (crossbarlaw10_TimersExpireSplits.f (k + 1) a0 a1 a2) := by
 intro a0 a1 a2 k
 obtain ⟨ih0, ih1⟩ := crossbarlaw10_TimersExpireSplits.mono_l k
 unfold crossbarlaw10_TimersExpireSplits.f
 repeat' first
   | (with_reducible exact ih0 _ _ _ _)
   | (with_reducible exact ih1 _ _ _ _ _ _ _ _ _)
   | (with_reducible exact crossbarlaw10_sane.mono _)
   | (with_reducible exact crossbarref10_Ints.mono _ _ _)
   | (with_reducible exact crossbarref10_Same.mono _ _ _)
   | (with_reducible exact LeO.refl _)
   | (with_reducible exact LeO.none _)
   | (with_reducible refine LeO.ite ?_ ?_)
   | (with_reducible refine LeO.bind ?_ (fun _ => ?_))
   | exact ih0 _ _ _ _
   | exact ih1 _ _ _ _ _ _ _ _ _
   | exact crossbarlaw10_sane.mono _
   | exact crossbarref10_Ints.mono _ _ _
   | exact crossbarref10_Same.mono _ _ _
   | exact LeO.none _
   | refine LeO.ite ?_ ?_
   | refine LeO.bind ?_ (fun _ => ?_)
set_option maxHeartbeats 8000000 in
set_option maxRecDepth 100000 in
theorem crossbarlaw10_TimersExpireSplits.calls (k : Nat) (A0_0 : Option Addr) (c0_0 : Nat) (l0_0 : List (S64)) (a1 : Int) (a2 : Int) (r : Bool) (w : World) (hr0_0 : Kd.C k64 w A0_0 l0_0.length l0_0) (hc0_0 : l0_0.length ≤ c0_0) (h : crossbarlaw10_TimersExpireSplits.f k l0_0 a1 a2 = some r) (hT : r = true := by rfl) :
  Calls Try.prog 15 #[.agg #[.slice A0_0 l0_0.length c0_0], .int .i64 a1, .int .i64 a2] w fun e w' => e = .returned (.bool r) ∧ Below w.heap.size w w' := by
 have HT_TRUE := Aside0.mk hT
 clear hT
 have hu45 := Try.underlying45
 have HR0_0 := Aside0.mk hr0_0
 have HC0_0 := Aside0.mk hc0_0
 clear hr0_0 hc0_0
 have HB := Aside0.mk (Below.refl w.heap.size w)
 have H : ((crossbarlaw10_sane.f k).bind fun t568 => (if t568 = true then ((crossbarref10_Few.f l0_0).bind fun t569 => (if t569 = true then (crossbarlaw10_TimersExpireSplits.j0 k a1 a2 (decide (a1 > a2)) l0_0) else (crossbarlaw10_TimersExpireSplits.j0 k a1 a2 true l0_0))) else (some false))) = some r := h
 clear h
 replace H := Option.bind_eq_some_iff.mp H
 obtain ⟨t568, A40, H⟩ := H
 replace H : (if t568 = true then ((crossbarref10_Few.f l0_0).bind fun t569 => (if t569 = true then (crossbarlaw10_TimersExpireSplits.j0 k a1 a2 (decide (a1 > a2)) l0_0) else (crossbarlaw10_TimersExpireSplits.j0 k a1 a2 true l0_0))) else (some false)) = some r := H
 have A4 := Aside0.mk A40
 clear A40
 by_cases c5 : t568 = true
 ·subst c5
  have H1 : ((crossbarref10_Few.f l0_0).bind fun t569 => (if t569 = true then (crossbarlaw10_TimersExpireSplits.j0 k a1 a2 (decide (a1 > a2)) l0_0) else (crossbarlaw10_TimersExpireSplits.j0 k a1 a2 true l0_0))) = some r := by rw [if_pos rfl] at H; exact H
  clear H
  have H := H1
  clear H1
  have HC6 := Aside0.mk H
  clear H
  go_enter Try.func15, Try.ntmps15
  go_upto_region 3 with (first | ((with_reducible refine gate_dst (N := 3) rfl ?_); (try (refine gate_guard (by rfl) ?_; dsimp only)); refine box_event ?hg (N := 3) ?hd (cs := #[.slice A0_0 l0_0.length c0_0]) (t := 45) ?hr ?_; (case hd => rfl); (case hg => rfl); (case hr => first | (go_simp; done) | (go_simp; rfl)); intro gb567 hg w7 hbox hb; have n0_ := Aside0.mk (below_step (by repeat (first | (with_reducible first | exact HB.out | apply below_alloc | apply pw_below_drewN | apply below_drew1) | exact HB.out)) hb); have n1_ := Aside0.mk (hbox); have n2_ := Aside0.mk ((by rw [hg]; exact (below_size (by repeat (first | (with_reducible first | exact HB.out | apply below_alloc | apply pw_below_drewN | apply below_drew1) | exact HB.out))) : w.heap.size ≤ gb567)); have n3_ := Aside0.mk ((by rw [hg]; exact (below_size (by repeat (first | (with_reducible first | exact HB.out | apply below_alloc | apply pw_below_drewN | apply below_drew1) | exact HB.out))) : w.heap.size ≤ gb567)); clear HB; have HB := n0_; have BK567 := n1_; have GW567 := n2_; have GE567 := n3_; clear n0_ n1_ n2_ n3_; clear hb hbox hg) | ((with_reducible refine gate_callee (f := 32) rfl ?_); refine goesL_ (some 17) rfl rfl Try.func32 (by kernel_rfl) rfl #[] rfl (by (try simp only [List.map_toArray, List.map_cons, List.map_nil]); first | done | rfl | (simp only [List.length_drop, List.length_take]; rfl)) ?_; (with_reducible refine (crossbarlaw10_sane.calls k  true _ A4.out).mono ?_); rintro e w8 ⟨rfl, hb⟩; refine ⟨_, rfl, ?_⟩; have n0_ := Aside0.mk (blk_below (g := gb567) (o := .cells #[.slice A0_0 l0_0.length c0_0] 45 (0, 0)) (by (with_reducible repeat (first | refine blk_drewN ?_ _ | refine blk_drew ?_ | refine blk_alloc ?_ _)); exact BK567.out) hb); have n1_ := Aside0.mk (below_step (by repeat (first | (with_reducible first | exact HB.out | apply below_alloc | apply pw_below_drewN | apply below_drew1 | refine below_set ?_ GE567.out) | exact HB.out)) hb); clear BK567; clear HB; have BK567 := n0_; have HB := n1_; clear n0_ n1_; (try clear hb); (try clear hb2); (try clear hk); (try clear hi)))
  (try simp only [Act.put, List.setIfInBounds_toArray, List.set_cons_zero, List.set_cons_succ])
  go_cut [26] (fun v26 wc => ∃ (kq : Nat) (x26_5 : Bool), v26 = .bool x26_5 ∧ Aside0 (crossbarlaw10_TimersExpireSplits.j0 kq a1 a2 x26_5 l0_0 = some r) ∧ Aside0 (kq ≤ k) ∧ Aside0 (wc.heap[gb567]? = some (.cells #[(.slice A0_0 l0_0.length c0_0)] 45 (0, 0))) ∧ Aside0 (Below w.heap.size w wc))
  case first =>
   have H := HC6.out
   clear HC6
   replace H := Option.bind_eq_some_iff.mp H
   obtain ⟨t569, A90, H⟩ := H
   replace H : (if t569 = true then (crossbarlaw10_TimersExpireSplits.j0 k a1 a2 (decide (a1 > a2)) l0_0) else (crossbarlaw10_TimersExpireSplits.j0 k a1 a2 true l0_0)) = some r := H
   have A9 := Aside0.mk A90
   clear A90
   by_cases c10 : t569 = true
   ·subst c10
    have H1 : (crossbarlaw10_TimersExpireSplits.j0 k a1 a2 (decide (a1 > a2)) l0_0) = some r := by rw [if_pos rfl] at H; exact H
    clear H
    have H := H1
    clear H1
    have H' := Aside0.mk H
    clear H
    have hcz11_0 : w8.cell? ⟨gb567, 0, none⟩ = some (.slice A0_0 l0_0.length c0_0) := (blk_cell BK567.out 0).trans rfl
    have hfz11_0 := blk_frozen BK567.out 0
    go_wp2_with (first | ((with_reducible refine gate_callee (f := 33) rfl ?_); refine goesL_ (some 20) rfl rfl Try.func33 (by kernel_rfl) rfl #[.agg #[.slice A0_0 l0_0.length c0_0]] rfl (by (try simp only [List.map_toArray, List.map_cons, List.map_nil]); first | done | rfl | (simp only [List.length_drop, List.length_take]; rfl)) ?_; (with_reducible refine (crossbarref10_Few.calls _ _ l0_0 true _ ?side1 ?side2 A9.out).mono ?_); (case side1 => repeat (first | exact (Kd.C_below HR0_0.out HB.out) | (with_reducible refine Kd.C_alloc ?_ _) | (with_reducible refine Kd.C_drewN ?_ _) | (with_reducible refine Kd.C_drew ?_))); (case side2 => exact HC0_0.out); rintro e w12 ⟨rfl, hb⟩; refine ⟨_, rfl, ?_⟩; have n0_ := Aside0.mk (blk_below (g := gb567) (o := .cells #[.slice A0_0 l0_0.length c0_0] 45 (0, 0)) (by (with_reducible repeat (first | refine blk_drewN ?_ _ | refine blk_drew ?_ | refine blk_alloc ?_ _)); exact BK567.out) hb); have n1_ := Aside0.mk (below_step (by repeat (first | (with_reducible first | exact HB.out | apply below_alloc | apply pw_below_drewN | apply below_drew1 | refine below_set ?_ GE567.out) | exact HB.out)) hb); clear BK567; clear HB; have BK567 := n0_; have HB := n1_; clear n0_ n1_; (try clear hb); (try clear hb2); (try clear hk); (try clear hi)))
    go_meet
    case rel => exact ⟨_, (decide (a1 > a2)), (by first | rfl | (simp; done) | (simp [*]; done)), H', ⟨by first | omega | exact Nat.le_refl _⟩, ⟨by (with_reducible repeat (first | refine blk_drewN ?_ _ | refine blk_drew ?_ | refine blk_alloc ?_ _)); exact BK567.out⟩, ⟨by repeat (first | (with_reducible first | exact HB.out | apply below_alloc | apply pw_below_drewN | apply below_drew1 | refine below_set ?_ GE567.out) | exact HB.out)⟩⟩
   ·replace c10 := Bool.eq_false_iff.mpr c10
    subst c10
    have H1 : (crossbarlaw10_TimersExpireSplits.j0 k a1 a2 true l0_0) = some r := by rw [if_neg (show ¬ (false = true) by decide)] at H; exact H
    clear H
    have H := H1
    clear H1
    have H' := Aside0.mk H
    clear H
    have hcz13_0 : w8.cell? ⟨gb567, 0, none⟩ = some (.slice A0_0 l0_0.length c0_0) := (blk_cell BK567.out 0).trans rfl
    have hfz13_0 := blk_frozen BK567.out 0
    go_wp2_with (first | ((with_reducible refine gate_callee (f := 33) rfl ?_); refine goesL_ (some 20) rfl rfl Try.func33 (by kernel_rfl) rfl #[.agg #[.slice A0_0 l0_0.length c0_0]] rfl (by (try simp only [List.map_toArray, List.map_cons, List.map_nil]); first | done | rfl | (simp only [List.length_drop, List.length_take]; rfl)) ?_; (with_reducible refine (crossbarref10_Few.calls _ _ l0_0 false _ ?side1 ?side2 A9.out).mono ?_); (case side1 => repeat (first | exact (Kd.C_below HR0_0.out HB.out) | (with_reducible refine Kd.C_alloc ?_ _) | (with_reducible refine Kd.C_drewN ?_ _) | (with_reducible refine Kd.C_drew ?_))); (case side2 => exact HC0_0.out); rintro e w14 ⟨rfl, hb⟩; refine ⟨_, rfl, ?_⟩; have n0_ := Aside0.mk (blk_below (g := gb567) (o := .cells #[.slice A0_0 l0_0.length c0_0] 45 (0, 0)) (by (with_reducible repeat (first | refine blk_drewN ?_ _ | refine blk_drew ?_ | refine blk_alloc ?_ _)); exact BK567.out) hb); have n1_ := Aside0.mk (below_step (by repeat (first | (with_reducible first | exact HB.out | apply below_alloc | apply pw_below_drewN | apply below_drew1 | refine below_set ?_ GE567.out) | exact HB.out)) hb); clear BK567; clear HB; have BK567 := n0_; have HB := n1_; clear n0_ n1_; (try clear hb); (try clear hb2); (try clear hk); (try clear hi)))
    go_meet
    case rel => exact ⟨_, (true), (by first | rfl | (simp; done) | (simp [*]; done)), H', ⟨by first | omega | exact Nat.le_refl _⟩, ⟨by (with_reducible repeat (first | refine blk_drewN ?_ _ | refine blk_drew ?_ | refine blk_alloc ?_ _)); exact BK567.out⟩, ⟨by repeat (first | (with_reducible first | exact HB.out | apply below_alloc | apply pw_below_drewN | apply below_drew1 | refine below_set ?_ GE567.out) | exact HB.out)⟩⟩
  case rest =>
   clear HC6
   try clear c1
   try clear p2
   try clear c3
   try clear c5
   try clear c10
   try clear hcz11_0
   try clear hcz13_0
   try clear hfz11_0
   try clear hfz13_0
   obtain ⟨kq, x26_5, rfl, HA, HJ5, BK567, HB⟩ := hcut
   cases kq with
   | zero => exact absurd HA.out (by simp [crossbarlaw10_TimersExpireSplits.j0])
   | succ kj5 =>
    have H := HA.out
    clear HA
    simp only [crossbarlaw10_TimersExpireSplits.j0] at H
    by_cases c15 : x26_5 = true
    ·subst c15
     have H1 : (some true) = some r := by rw [if_pos rfl] at H; exact H
     clear H
     have H := H1
     clear H1
     obtain rfl := Option.some.inj H
     go_wp2
     go_ret
     exact ⟨by first | rfl | (simp [errW_none, errW_some] <;> rfl) | (simp [*, errW_none, errW_some] <;> rfl), by repeat (first | (with_reducible first | exact HB.out | apply below_alloc | apply pw_below_drewN | apply below_drew1 | refine below_set ?_ GE567.out) | exact HB.out)⟩
    ·replace c15 := Bool.eq_false_iff.mpr c15
     subst c15
     have H1 : ((timers_Expire.f l0_0 a1).bind fun bt570 => ((timers_Expire.f bt570.1 a2).bind fun bt578 => ((timers_Expire.f l0_0 a2).bind fun bt586 => (if bt570.2.2 = 0 then (crossbarlaw10_TimersExpireSplits.j1 kj5 bt570.2.1 bt570.2.2 bt578.2.1 bt578.2.2 bt586.2.1 bt586.2.2 (bt586.2.2 != 0) bt578.1 bt586.1) else (crossbarlaw10_TimersExpireSplits.j1 kj5 bt570.2.1 bt570.2.2 bt578.2.1 bt578.2.2 bt586.2.1 bt586.2.2 true bt578.1 bt586.1))))) = some r := by rw [if_neg (show ¬ (false = true) by decide)] at H; exact H
     clear H
     have H := H1
     clear H1
     replace H := Option.bind_eq_some_iff.mp H
     obtain ⟨⟨t570, t573, t576⟩, A160, H⟩ := H
     replace H : ((timers_Expire.f t570 a2).bind fun bt578 => ((timers_Expire.f l0_0 a2).bind fun bt586 => (if t576 = 0 then (crossbarlaw10_TimersExpireSplits.j1 kj5 t573 t576 bt578.2.1 bt578.2.2 bt586.2.1 bt586.2.2 (bt586.2.2 != 0) bt578.1 bt586.1) else (crossbarlaw10_TimersExpireSplits.j1 kj5 t573 t576 bt578.2.1 bt578.2.2 bt586.2.1 bt586.2.2 true bt578.1 bt586.1)))) = some r := H
     have A16 := Aside0.mk A160
     clear A160
     replace H := Option.bind_eq_some_iff.mp H
     obtain ⟨⟨t578, t581, t584⟩, A170, H⟩ := H
     replace H : ((timers_Expire.f l0_0 a2).bind fun bt586 => (if t576 = 0 then (crossbarlaw10_TimersExpireSplits.j1 kj5 t573 t576 t581 t584 bt586.2.1 bt586.2.2 (bt586.2.2 != 0) t578 bt586.1) else (crossbarlaw10_TimersExpireSplits.j1 kj5 t573 t576 t581 t584 bt586.2.1 bt586.2.2 true t578 bt586.1))) = some r := H
     have A17 := Aside0.mk A170
     clear A170
     replace H := Option.bind_eq_some_iff.mp H
     obtain ⟨⟨t586, t589, t592⟩, A180, H⟩ := H
     replace H : (if t576 = 0 then (crossbarlaw10_TimersExpireSplits.j1 kj5 t573 t576 t581 t584 t589 t592 (t592 != 0) t578 t586) else (crossbarlaw10_TimersExpireSplits.j1 kj5 t573 t576 t581 t584 t589 t592 true t578 t586)) = some r := H
     have A18 := Aside0.mk A180
     clear A180
     have HC19 := Aside0.mk H
     clear H
     have hcz20_0 : wc.cell? ⟨gb567, 0, none⟩ = some (.slice A0_0 l0_0.length c0_0) := (blk_cell BK567.out 0).trans rfl
     have hfz20_0 := blk_frozen BK567.out 0
     go_upto_region 8 with (first | ((with_reducible refine gate_callee (f := 43) rfl ?_); refine goesL_ (some 30) rfl rfl Try.func43 (by kernel_rfl) rfl #[.agg #[.slice A0_0 l0_0.length c0_0], .int .i64 a1] rfl (by (try simp only [List.map_toArray, List.map_cons, List.map_nil]); first | done | rfl | (simp only [List.length_drop, List.length_take]; rfl)) ?_; (with_reducible refine (timers_Expire.calls _ _ l0_0 a1 t570 t573 t576 _ ?side1 ?side2 A16.out).mono ?_); (case side1 => repeat (first | exact (Kd.C_below HR0_0.out HB.out) | (with_reducible refine Kd.C_alloc ?_ _) | (with_reducible refine Kd.C_drewN ?_ _) | (with_reducible refine Kd.C_drew ?_))); (case side2 => exact HC0_0.out); rintro e w21 ⟨v571, v574, rfl, ho0, ho1, hb⟩; refine ⟨_, rfl, ?_⟩; have n0_ := Aside0.mk (Kd.R_lower ho0 (below_size (by repeat (first | (with_reducible first | exact HB.out | apply below_alloc | apply pw_below_drewN | apply below_drew1 | refine below_set ?_ GE567.out) | exact HB.out)))); have n1_ := Aside0.mk (Kd.R_lower ho1 (below_size (by repeat (first | (with_reducible first | exact HB.out | apply below_alloc | apply pw_below_drewN | apply below_drew1 | refine below_set ?_ GE567.out) | exact HB.out)))); have n2_ := Aside0.mk (blk_below (g := gb567) (o := .cells #[.slice A0_0 l0_0.length c0_0] 45 (0, 0)) (by (with_reducible repeat (first | refine blk_drewN ?_ _ | refine blk_drew ?_ | refine blk_alloc ?_ _)); exact BK567.out) hb); have n3_ := Aside0.mk (below_step (by repeat (first | (with_reducible first | exact HB.out | apply below_alloc | apply pw_below_drewN | apply below_drew1 | refine below_set ?_ GE567.out) | exact HB.out)) hb); clear BK567; clear HB; have HO572 := n0_; have HO575 := n1_; have BK567 := n2_; have HB := n3_; clear n0_ n1_ n2_ n3_; (try clear hb); (try clear hb2); (try clear hk); (try clear hi); (try clear ho0); (try clear ho1)) | ((with_reducible refine gate_dst (N := 7) rfl ?_); (try (refine gate_guard (by rfl) ?_; dsimp only)); refine box_event ?hg (N := 7) ?hd (cs := #[.slice none 0 0]) (t := 45) ?hr ?_; (case hd => rfl); (case hg => rfl); (case hr => first | (go_simp; done) | (go_simp; rfl)); intro gb577 hg w22 hbox hb; have n0_ := Aside0.mk (Kd.R_below (by (with_reducible repeat (first | apply Kd.R_alloc | apply Kd.R_drewN | apply Kd.R_drew)); exact HO572.out) hb); have n1_ := Aside0.mk (Kd.R_below (by (with_reducible repeat (first | apply Kd.R_alloc | apply Kd.R_drewN | apply Kd.R_drew)); exact HO575.out) hb); have n2_ := Aside0.mk (blk_below (g := gb567) (o := .cells #[.slice A0_0 l0_0.length c0_0] 45 (0, 0)) (by (with_reducible repeat (first | refine blk_drewN ?_ _ | refine blk_drew ?_ | refine blk_alloc ?_ _)); exact BK567.out) hb); have n3_ := Aside0.mk (below_step (by repeat (first | (with_reducible first | exact HB.out | apply below_alloc | apply pw_below_drewN | apply below_drew1 | refine below_set ?_ GE567.out) | exact HB.out)) hb); have n4_ := Aside0.mk (hbox); have n5_ := Aside0.mk ((by rw [hg]; exact (below_size (by repeat (first | (with_reducible first | exact HB.out | apply below_alloc | apply pw_below_drewN | apply below_drew1 | refine below_set ?_ GE567.out) | exact HB.out))) : w.heap.size ≤ gb577)); have n6_ := Aside0.mk ((by rw [hg]; exact (below_size (by repeat (first | (with_reducible first | exact HB.out | apply below_alloc | apply pw_below_drewN | apply below_drew1 | refine below_set ?_ GE567.out) | exact HB.out))) : w.heap.size ≤ gb577)); have n7_ := Aside0.mk ((by rw [hg]; exact Nat.ne_of_lt (blk_lt (g := gb567) (o := .cells #[.slice A0_0 l0_0.length c0_0] 45 (0, 0)) (by (with_reducible repeat (first | refine blk_drewN ?_ _ | refine blk_drew ?_ | refine blk_alloc ?_ _)); exact BK567.out)) : gb567 ≠ gb577)); have n8_ := Aside0.mk ((by rw [hg]; exact Nat.ne_of_gt (blk_lt (g := gb567) (o := .cells #[.slice A0_0 l0_0.length c0_0] 45 (0, 0)) (by (with_reducible repeat (first | refine blk_drewN ?_ _ | refine blk_drew ?_ | refine blk_alloc ?_ _)); exact BK567.out)) : gb577 ≠ gb567)); clear HO572; clear HO575; clear BK567; clear HB; have HO572 := n0_; have HO575 := n1_; have BK567 := n2_; have HB := n3_; have BK577 := n4_; have GW577 := n5_; have GE577 := n6_; have NB567_577 := n7_; have NB577_567 := n8_; clear n0_ n1_ n2_ n3_ n4_ n5_ n6_ n7_ n8_; clear hb hbox hg; obtain ⟨Ao23, co23, eo23⟩ := Kd.R_slice HO572.out; subst eo23; have hnb24 := NB577_567.out; have hnc24 := NB567_577.out; have hcz25_0 : w22.cell? ⟨gb577, 0, none⟩ = some (.slice none 0 0) := (blk_cell BK577.out 0).trans rfl; have hfz25_0 := blk_frozen BK577.out 0) | ((with_reducible refine gate_callee (f := 43) rfl ?_); refine goesL_ (some 37) rfl rfl Try.func43 (by kernel_rfl) rfl #[.agg #[.slice Ao23 t570.length co23], .int .i64 a2] rfl (by (try simp only [List.map_toArray, List.map_cons, List.map_nil]); first | done | rfl | (simp only [List.length_drop, List.length_take]; rfl)) ?_; (with_reducible refine (timers_Expire.calls _ _ t570 a2 t578 t581 t584 _ ?side1 ?side2 A17.out).mono ?_); (case side1 => refine (Kd.R_reads' (e := 64) (base := w.heap.size) (ok := fun k_ => True) (n := t570.length) (c := co23) ?_).2.2; exact (by (with_reducible repeat (first | apply Kd.R_alloc | apply Kd.R_drewN | apply Kd.R_drew)); exact (Kd.R_mono (Kd.R_far (p := ⟨gb577, 0, none⟩) (Kd.R_types HO572.out BK577.out (by decide)) (fun _ hk => hk.2) (.slice Ao23 t570.length co23)) (fun _ h_ => h_.1)))); (case side2 => exact (Kd.R_reads' HO572.out).2.1); rintro e w26 ⟨v579, v582, rfl, ho0, ho1, hb⟩; refine ⟨_, rfl, ?_⟩; have n0_ := Aside0.mk (Kd.R_elder' (by (with_reducible repeat (first | apply Kd.R_alloc | apply Kd.R_drewN | apply Kd.R_drew)); exact (Kd.R_mono (Kd.R_far (p := ⟨gb577, 0, none⟩) (Kd.R_types HO572.out BK577.out (by decide)) (fun _ hk => hk.2) (.slice Ao23 t570.length co23)) (fun _ h_ => h_.1))) (Kd.R_base ho0) hb); have n1_ := Aside0.mk (Kd.R_elder' (by (with_reducible repeat (first | apply Kd.R_alloc | apply Kd.R_drewN | apply Kd.R_drew)); exact (Kd.R_mono (Kd.R_far (p := ⟨gb577, 0, none⟩) (Kd.R_types HO575.out BK577.out (by decide)) (fun _ hk => hk.2) (.slice Ao23 t570.length co23)) (fun _ h_ => h_.1))) (Kd.R_base ho1) hb); have n2_ := Aside0.mk (Kd.R_lower (Kd.R_new' ho0 (Kd.R_lt (by (with_reducible repeat (first | apply Kd.R_alloc | apply Kd.R_drewN | apply Kd.R_drew)); exact (Kd.R_mono (Kd.R_far (p := ⟨gb577, 0, none⟩) (Kd.R_types HO572.out BK577.out (by decide)) (fun _ hk => hk.2) (.slice Ao23 t570.length co23)) (fun _ h_ => h_.1))))) (below_size (by repeat (first | (with_reducible first | exact HB.out | apply below_alloc | apply pw_below_drewN | apply below_drew1 | refine below_set ?_ GE567.out | refine below_set ?_ GE577.out) | exact HB.out)))); have n3_ := Aside0.mk (Kd.R_lower (Kd.R_new' ho1 (Kd.R_lt (by (with_reducible repeat (first | apply Kd.R_alloc | apply Kd.R_drewN | apply Kd.R_drew)); exact (Kd.R_mono (Kd.R_far (p := ⟨gb577, 0, none⟩) (Kd.R_types HO575.out BK577.out (by decide)) (fun _ hk => hk.2) (.slice Ao23 t570.length co23)) (fun _ h_ => h_.1))))) (below_size (by repeat (first | (with_reducible first | exact HB.out | apply below_alloc | apply pw_below_drewN | apply below_drew1 | refine below_set ?_ GE567.out | refine below_set ?_ GE577.out) | exact HB.out)))); have n4_ := Aside0.mk (blk_below (g := gb567) (o := .cells #[.slice A0_0 l0_0.length c0_0] 45 (0, 0)) (by (with_reducible repeat (first | refine blk_drewN ?_ _ | refine blk_drew ?_ | refine blk_alloc ?_ _)); refine blk_far ?_ NB567_577.out _; (with_reducible repeat (first | refine blk_drewN ?_ _ | refine blk_drew ?_ | refine blk_alloc ?_ _)); exact BK567.out) hb); have n5_ := Aside0.mk (blk_below (g := gb577) (o := .cells #[.slice Ao23 t570.length co23] 45 (0, 0)) (by (with_reducible repeat (first | refine blk_drewN ?_ _ | refine blk_drew ?_ | refine blk_alloc ?_ _)); refine blk_put (cs := #[.slice none 0 0]) ?_ 0 _ rfl; (with_reducible repeat (first | refine blk_drewN ?_ _ | refine blk_drew ?_ | refine blk_alloc ?_ _)); exact BK577.out) hb); have n6_ := Aside0.mk (below_step (by repeat (first | (with_reducible first | exact HB.out | apply below_alloc | apply pw_below_drewN | apply below_drew1 | refine below_set ?_ GE567.out | refine below_set ?_ GE577.out) | exact HB.out)) hb); clear HO572; clear HO575; clear BK567; clear BK577; clear HB; have HO572 := n0_; have HO575 := n1_; have HO580 := n2_; have HO583 := n3_; have BK567 := n4_; have BK577 := n5_; have HB := n6_; clear n0_ n1_ n2_ n3_ n4_ n5_ n6_; (try clear hb); (try clear hb2); (try clear hk); (try clear hi); (try clear ho0); (try clear ho1)) | ((with_reducible refine gate_dst (N := 10) rfl ?_); (try (refine gate_guard (by rfl) ?_; dsimp only)); refine box_event ?hg (N := 10) ?hd (cs := #[.slice none 0 0]) (t := 45) ?hr ?_; (case hd => rfl); (case hg => rfl); (case hr => first | (go_simp; done) | (go_simp; rfl)); intro gb585 hg w27 hbox hb; have n0_ := Aside0.mk (Kd.R_below (by (with_reducible repeat (first | apply Kd.R_alloc | apply Kd.R_drewN | apply Kd.R_drew)); exact HO572.out) hb); have n1_ := Aside0.mk (Kd.R_below (by (with_reducible repeat (first | apply Kd.R_alloc | apply Kd.R_drewN | apply Kd.R_drew)); exact HO575.out) hb); have n2_ := Aside0.mk (Kd.R_below (by (with_reducible repeat (first | apply Kd.R_alloc | apply Kd.R_drewN | apply Kd.R_drew)); exact HO580.out) hb); have n3_ := Aside0.mk (Kd.R_below (by (with_reducible repeat (first | apply Kd.R_alloc | apply Kd.R_drewN | apply Kd.R_drew)); exact HO583.out) hb); have n4_ := Aside0.mk (blk_below (g := gb567) (o := .cells #[.slice A0_0 l0_0.length c0_0] 45 (0, 0)) (by (with_reducible repeat (first | refine blk_drewN ?_ _ | refine blk_drew ?_ | refine blk_alloc ?_ _)); exact BK567.out) hb); have n5_ := Aside0.mk (blk_below (g := gb577) (o := .cells #[.slice Ao23 t570.length co23] 45 (0, 0)) (by (with_reducible repeat (first | refine blk_drewN ?_ _ | refine blk_drew ?_ | refine blk_alloc ?_ _)); exact BK577.out) hb); have n6_ := Aside0.mk (below_step (by repeat (first | (with_reducible first | exact HB.out | apply below_alloc | apply pw_below_drewN | apply below_drew1 | refine below_set ?_ GE567.out | refine below_set ?_ GE577.out) | exact HB.out)) hb); have n7_ := Aside0.mk (hbox); have n8_ := Aside0.mk ((by rw [hg]; exact (below_size (by repeat (first | (with_reducible first | exact HB.out | apply below_alloc | apply pw_below_drewN | apply below_drew1 | refine below_set ?_ GE567.out | refine below_set ?_ GE577.out) | exact HB.out))) : w.heap.size ≤ gb585)); have n9_ := Aside0.mk ((by rw [hg]; exact (below_size (by repeat (first | (with_reducible first | exact HB.out | apply below_alloc | apply pw_below_drewN | apply below_drew1 | refine below_set ?_ GE567.out | refine below_set ?_ GE577.out) | exact HB.out))) : w.heap.size ≤ gb585)); have n10_ := Aside0.mk ((by rw [hg]; exact Nat.ne_of_lt (blk_lt (g := gb567) (o := .cells #[.slice A0_0 l0_0.length c0_0] 45 (0, 0)) (by (with_reducible repeat (first | refine blk_drewN ?_ _ | refine blk_drew ?_ | refine blk_alloc ?_ _)); exact BK567.out)) : gb567 ≠ gb585)); have n11_ := Aside0.mk ((by rw [hg]; exact Nat.ne_of_gt (blk_lt (g := gb567) (o := .cells #[.slice A0_0 l0_0.length c0_0] 45 (0, 0)) (by (with_reducible repeat (first | refine blk_drewN ?_ _ | refine blk_drew ?_ | refine blk_alloc ?_ _)); exact BK567.out)) : gb585 ≠ gb567)); have n12_ := Aside0.mk ((by rw [hg]; exact Nat.ne_of_lt (blk_lt (g := gb577) (o := .cells #[.slice Ao23 t570.length co23] 45 (0, 0)) (by (with_reducible repeat (first | refine blk_drewN ?_ _ | refine blk_drew ?_ | refine blk_alloc ?_ _)); exact BK577.out)) : gb577 ≠ gb585)); have n13_ := Aside0.mk ((by rw [hg]; exact Nat.ne_of_gt (blk_lt (g := gb577) (o := .cells #[.slice Ao23 t570.length co23] 45 (0, 0)) (by (with_reducible repeat (first | refine blk_drewN ?_ _ | refine blk_drew ?_ | refine blk_alloc ?_ _)); exact BK577.out)) : gb585 ≠ gb577)); clear HO572; clear HO575; clear HO580; clear HO583; clear BK567; clear BK577; clear HB; have HO572 := n0_; have HO575 := n1_; have HO580 := n2_; have HO583 := n3_; have BK567 := n4_; have BK577 := n5_; have HB := n6_; have BK585 := n7_; have GW585 := n8_; have GE585 := n9_; have NB567_585 := n10_; have NB585_567 := n11_; have NB577_585 := n12_; have NB585_577 := n13_; clear n0_ n1_ n2_ n3_ n4_ n5_ n6_ n7_ n8_ n9_ n10_ n11_ n12_ n13_; clear hb hbox hg; obtain ⟨Ao28, co28, eo28⟩ := Kd.R_slice HO580.out; subst eo28; have hnb29 := NB585_567.out; have hnc29 := NB567_585.out; have hnb30 := NB585_577.out; have hnc30 := NB577_585.out; have hcz31_0 : w27.cell? ⟨gb585, 0, none⟩ = some (.slice none 0 0) := (blk_cell BK585.out 0).trans rfl; have hfz31_0 := blk_frozen BK585.out 0; have hcz32_0 : w27.cell? ⟨gb567, 0, none⟩ = some (.slice A0_0 l0_0.length c0_0) := (blk_cell BK567.out 0).trans rfl; have hfz32_0 := blk_frozen BK567.out 0) | ((with_reducible refine gate_callee (f := 43) rfl ?_); refine goesL_ (some 44) rfl rfl Try.func43 (by kernel_rfl) rfl #[.agg #[.slice A0_0 l0_0.length c0_0], .int .i64 a2] rfl (by (try simp only [List.map_toArray, List.map_cons, List.map_nil]); first | done | rfl | (simp only [List.length_drop, List.length_take]; rfl)) ?_; (with_reducible refine (timers_Expire.calls _ _ l0_0 a2 t586 t589 t592 _ ?side1 ?side2 A18.out).mono ?_); (case side1 => exact Kd.C_below HR0_0.out (by repeat (first | (with_reducible first | exact HB.out | apply below_alloc | apply pw_below_drewN | apply below_drew1 | refine below_set ?_ GE567.out | refine below_set ?_ GE577.out | refine below_set ?_ GE585.out) | exact HB.out))); (case side2 => exact HC0_0.out); rintro e w33 ⟨v587, v590, rfl, ho0, ho1, hb⟩; refine ⟨_, rfl, ?_⟩; have n0_ := Aside0.mk (Kd.R_elder' (by (with_reducible repeat (first | apply Kd.R_alloc | apply Kd.R_drewN | apply Kd.R_drew)); exact (Kd.R_mono (Kd.R_far (p := ⟨gb585, 0, none⟩) (Kd.R_types HO572.out BK585.out (by decide)) (fun _ hk => hk.2) (.slice Ao28 t578.length co28)) (fun _ h_ => h_.1))) (Kd.R_base ho0) hb); have n1_ := Aside0.mk (Kd.R_elder' (by (with_reducible repeat (first | apply Kd.R_alloc | apply Kd.R_drewN | apply Kd.R_drew)); exact (Kd.R_mono (Kd.R_far (p := ⟨gb585, 0, none⟩) (Kd.R_types HO575.out BK585.out (by decide)) (fun _ hk => hk.2) (.slice Ao28 t578.length co28)) (fun _ h_ => h_.1))) (Kd.R_base ho1) hb); have n2_ := Aside0.mk (Kd.R_elder' (by (with_reducible repeat (first | apply Kd.R_alloc | apply Kd.R_drewN | apply Kd.R_drew)); exact (Kd.R_mono (Kd.R_far (p := ⟨gb585, 0, none⟩) (Kd.R_types HO580.out BK585.out (by decide)) (fun _ hk => hk.2) (.slice Ao28 t578.length co28)) (fun _ h_ => h_.1))) (Kd.R_base ho0) hb); have n3_ := Aside0.mk (Kd.R_elder' (by (with_reducible repeat (first | apply Kd.R_alloc | apply Kd.R_drewN | apply Kd.R_drew)); exact (Kd.R_mono (Kd.R_far (p := ⟨gb585, 0, none⟩) (Kd.R_types HO583.out BK585.out (by decide)) (fun _ hk => hk.2) (.slice Ao28 t578.length co28)) (fun _ h_ => h_.1))) (Kd.R_base ho1) hb); have n4_ := Aside0.mk (Kd.R_lower (Kd.R_new' (Kd.R_new' ho0 (Kd.R_lt (by (with_reducible repeat (first | apply Kd.R_alloc | apply Kd.R_drewN | apply Kd.R_drew)); exact (Kd.R_mono (Kd.R_far (p := ⟨gb585, 0, none⟩) (Kd.R_types HO572.out BK585.out (by decide)) (fun _ hk => hk.2) (.slice Ao28 t578.length co28)) (fun _ h_ => h_.1))))) (Kd.R_lt (by (with_reducible repeat (first | apply Kd.R_alloc | apply Kd.R_drewN | apply Kd.R_drew)); exact (Kd.R_mono (Kd.R_far (p := ⟨gb585, 0, none⟩) (Kd.R_types HO580.out BK585.out (by decide)) (fun _ hk => hk.2) (.slice Ao28 t578.length co28)) (fun _ h_ => h_.1))))) (below_size (by repeat (first | (with_reducible first | exact HB.out | apply below_alloc | apply pw_below_drewN | apply below_drew1 | refine below_set ?_ GE567.out | refine below_set ?_ GE577.out | refine below_set ?_ GE585.out) | exact HB.out)))); have n5_ := Aside0.mk (Kd.R_lower (Kd.R_new' (Kd.R_new' ho1 (Kd.R_lt (by (with_reducible repeat (first | apply Kd.R_alloc | apply Kd.R_drewN | apply Kd.R_drew)); exact (Kd.R_mono (Kd.R_far (p := ⟨gb585, 0, none⟩) (Kd.R_types HO575.out BK585.out (by decide)) (fun _ hk => hk.2) (.slice Ao28 t578.length co28)) (fun _ h_ => h_.1))))) (Kd.R_lt (by (with_reducible repeat (first | apply Kd.R_alloc | apply Kd.R_drewN | apply Kd.R_drew)); exact (Kd.R_mono (Kd.R_far (p := ⟨gb585, 0, none⟩) (Kd.R_types HO583.out BK585.out (by decide)) (fun _ hk => hk.2) (.slice Ao28 t578.length co28)) (fun _ h_ => h_.1))))) (below_size (by repeat (first | (with_reducible first | exact HB.out | apply below_alloc | apply pw_below_drewN | apply below_drew1 | refine below_set ?_ GE567.out | refine below_set ?_ GE577.out | refine below_set ?_ GE585.out) | exact HB.out)))); have n6_ := Aside0.mk (blk_below (g := gb567) (o := .cells #[.slice A0_0 l0_0.length c0_0] 45 (0, 0)) (by (with_reducible repeat (first | refine blk_drewN ?_ _ | refine blk_drew ?_ | refine blk_alloc ?_ _)); refine blk_far ?_ NB567_585.out _; (with_reducible repeat (first | refine blk_drewN ?_ _ | refine blk_drew ?_ | refine blk_alloc ?_ _)); exact BK567.out) hb); have n7_ := Aside0.mk (blk_below (g := gb577) (o := .cells #[.slice Ao23 t570.length co23] 45 (0, 0)) (by (with_reducible repeat (first | refine blk_drewN ?_ _ | refine blk_drew ?_ | refine blk_alloc ?_ _)); refine blk_far ?_ NB577_585.out _; (with_reducible repeat (first | refine blk_drewN ?_ _ | refine blk_drew ?_ | refine blk_alloc ?_ _)); exact BK577.out) hb); have n8_ := Aside0.mk (blk_below (g := gb585) (o := .cells #[.slice Ao28 t578.length co28] 45 (0, 0)) (by (with_reducible repeat (first | refine blk_drewN ?_ _ | refine blk_drew ?_ | refine blk_alloc ?_ _)); refine blk_put (cs := #[.slice none 0 0]) ?_ 0 _ rfl; (with_reducible repeat (first | refine blk_drewN ?_ _ | refine blk_drew ?_ | refine blk_alloc ?_ _)); exact BK585.out) hb); have n9_ := Aside0.mk (below_step (by repeat (first | (with_reducible first | exact HB.out | apply below_alloc | apply pw_below_drewN | apply below_drew1 | refine below_set ?_ GE567.out | refine below_set ?_ GE577.out | refine below_set ?_ GE585.out) | exact HB.out)) hb); clear HO572; clear HO575; clear HO580; clear HO583; clear BK567; clear BK577; clear BK585; clear HB; have HO572 := n0_; have HO575 := n1_; have HO580 := n2_; have HO583 := n3_; have HO588 := n4_; have HO591 := n5_; have BK567 := n6_; have BK577 := n7_; have BK585 := n8_; have HB := n9_; clear n0_ n1_ n2_ n3_ n4_ n5_ n6_ n7_ n8_ n9_; (try clear hb); (try clear hb2); (try clear hk); (try clear hi); (try clear ho0); (try clear ho1)) | ((with_reducible refine gate_dst (N := 13) rfl ?_); (try (refine gate_guard (by rfl) ?_; dsimp only)); refine box_event ?hg (N := 13) ?hd (cs := #[.slice none 0 0]) (t := 45) ?hr ?_; (case hd => rfl); (case hg => rfl); (case hr => first | (go_simp; done) | (go_simp; rfl)); intro gb593 hg w34 hbox hb; have n0_ := Aside0.mk (Kd.R_below (by (with_reducible repeat (first | apply Kd.R_alloc | apply Kd.R_drewN | apply Kd.R_drew)); exact HO572.out) hb); have n1_ := Aside0.mk (Kd.R_below (by (with_reducible repeat (first | apply Kd.R_alloc | apply Kd.R_drewN | apply Kd.R_drew)); exact HO575.out) hb); have n2_ := Aside0.mk (Kd.R_below (by (with_reducible repeat (first | apply Kd.R_alloc | apply Kd.R_drewN | apply Kd.R_drew)); exact HO580.out) hb); have n3_ := Aside0.mk (Kd.R_below (by (with_reducible repeat (first | apply Kd.R_alloc | apply Kd.R_drewN | apply Kd.R_drew)); exact HO583.out) hb); have n4_ := Aside0.mk (Kd.R_below (by (with_reducible repeat (first | apply Kd.R_alloc | apply Kd.R_drewN | apply Kd.R_drew)); exact HO588.out) hb); have n5_ := Aside0.mk (Kd.R_below (by (with_reducible repeat (first | apply Kd.R_alloc | apply Kd.R_drewN | apply Kd.R_drew)); exact HO591.out) hb); have n6_ := Aside0.mk (blk_below (g := gb567) (o := .cells #[.slice A0_0 l0_0.length c0_0] 45 (0, 0)) (by (with_reducible repeat (first | refine blk_drewN ?_ _ | refine blk_drew ?_ | refine blk_alloc ?_ _)); exact BK567.out) hb); have n7_ := Aside0.mk (blk_below (g := gb577) (o := .cells #[.slice Ao23 t570.length co23] 45 (0, 0)) (by (with_reducible repeat (first | refine blk_drewN ?_ _ | refine blk_drew ?_ | refine blk_alloc ?_ _)); exact BK577.out) hb); have n8_ := Aside0.mk (blk_below (g := gb585) (o := .cells #[.slice Ao28 t578.length co28] 45 (0, 0)) (by (with_reducible repeat (first | refine blk_drewN ?_ _ | refine blk_drew ?_ | refine blk_alloc ?_ _)); exact BK585.out) hb); have n9_ := Aside0.mk (below_step (by repeat (first | (with_reducible first | exact HB.out | apply below_alloc | apply pw_below_drewN | apply below_drew1 | refine below_set ?_ GE567.out | refine below_set ?_ GE577.out | refine below_set ?_ GE585.out) | exact HB.out)) hb); have n10_ := Aside0.mk (hbox); have n11_ := Aside0.mk ((by rw [hg]; exact (below_size (by repeat (first | (with_reducible first | exact HB.out | apply below_alloc | apply pw_below_drewN | apply below_drew1 | refine below_set ?_ GE567.out | refine below_set ?_ GE577.out | refine below_set ?_ GE585.out) | exact HB.out))) : w.heap.size ≤ gb593)); have n12_ := Aside0.mk ((by rw [hg]; exact (below_size (by repeat (first | (with_reducible first | exact HB.out | apply below_alloc | apply pw_below_drewN | apply below_drew1 | refine below_set ?_ GE567.out | refine below_set ?_ GE577.out | refine below_set ?_ GE585.out) | exact HB.out))) : w.heap.size ≤ gb593)); have n13_ := Aside0.mk ((by rw [hg]; exact Nat.ne_of_lt (blk_lt (g := gb567) (o := .cells #[.slice A0_0 l0_0.length c0_0] 45 (0, 0)) (by (with_reducible repeat (first | refine blk_drewN ?_ _ | refine blk_drew ?_ | refine blk_alloc ?_ _)); exact BK567.out)) : gb567 ≠ gb593)); have n14_ := Aside0.mk ((by rw [hg]; exact Nat.ne_of_gt (blk_lt (g := gb567) (o := .cells #[.slice A0_0 l0_0.length c0_0] 45 (0, 0)) (by (with_reducible repeat (first | refine blk_drewN ?_ _ | refine blk_drew ?_ | refine blk_alloc ?_ _)); exact BK567.out)) : gb593 ≠ gb567)); have n15_ := Aside0.mk ((by rw [hg]; exact Nat.ne_of_lt (blk_lt (g := gb577) (o := .cells #[.slice Ao23 t570.length co23] 45 (0, 0)) (by (with_reducible repeat (first | refine blk_drewN ?_ _ | refine blk_drew ?_ | refine blk_alloc ?_ _)); exact BK577.out)) : gb577 ≠ gb593)); have n16_ := Aside0.mk ((by rw [hg]; exact Nat.ne_of_gt (blk_lt (g := gb577) (o := .cells #[.slice Ao23 t570.length co23] 45 (0, 0)) (by (with_reducible repeat (first | refine blk_drewN ?_ _ | refine blk_drew ?_ | refine blk_alloc ?_ _)); exact BK577.out)) : gb593 ≠ gb577)); have n17_ := Aside0.mk ((by rw [hg]; exact Nat.ne_of_lt (blk_lt (g := gb585) (o := .cells #[.slice Ao28 t578.length co28] 45 (0, 0)) (by (with_reducible repeat (first | refine blk_drewN ?_ _ | refine blk_drew ?_ | refine blk_alloc ?_ _)); exact BK585.out)) : gb585 ≠ gb593)); have n18_ := Aside0.mk ((by rw [hg]; exact Nat.ne_of_gt (blk_lt (g := gb585) (o := .cells #[.slice Ao28 t578.length co28] 45 (0, 0)) (by (with_reducible repeat (first | refine blk_drewN ?_ _ | refine blk_drew ?_ | refine blk_alloc ?_ _)); exact BK585.out)) : gb593 ≠ gb585)); clear HO572; clear HO575; clear HO580; clear HO583; clear HO588; clear HO591; clear BK567; clear BK577; clear BK585; clear HB; have HO572 := n0_; have HO575 := n1_; have HO580 := n2_; have HO583 := n3_; have HO588 := n4_; have HO591 := n5_; have BK567 := n6_; have BK577 := n7_; have BK585 := n8_; have HB := n9_; have BK593 := n10_; have GW593 := n11_; have GE593 := n12_; have NB567_593 := n13_; have NB593_567 := n14_; have NB577_593 := n15_; have NB593_577 := n16_; have NB585_593 := n17_; have NB593_585 := n18_; clear n0_ n1_ n2_ n3_ n4_ n5_ n6_ n7_ n8_ n9_ n10_ n11_ n12_ n13_ n14_ n15_ n16_ n17_ n18_; clear hb hbox hg; obtain ⟨Ao35, co35, eo35⟩ := Kd.R_slice HO588.out; subst eo35; have hnb36 := NB593_567.out; have hnc36 := NB567_593.out; have hnb37 := NB593_577.out; have hnc37 := NB577_593.out; have hnb38 := NB593_585.out; have hnc38 := NB585_593.out; have hcz39_0 : w34.cell? ⟨gb593, 0, none⟩ = some (.slice none 0 0) := (blk_cell BK593.out 0).trans rfl; have hfz39_0 := blk_frozen BK593.out 0))
     (try simp only [Act.put, List.setIfInBounds_toArray, List.set_cons_zero, List.set_cons_succ])
     go_cut [53] (fun v53 wc => ∃ (kq : Nat) (x53_18 : Bool), v53 = .bool x53_18 ∧ Aside0 (crossbarlaw10_TimersExpireSplits.j1 kq t573 t576 t581 t584 t589 t592 x53_18 t578 t586 = some r) ∧ Aside0 (kq ≤ kj5) ∧ Aside0 (Kd.R (Kd.int .i64) 3 wc w.heap.size (fun k_ => some k_ ≠ (v582 : Value).ownBlock ∧ some k_ ≠ (v590 : Value).ownBlock) v574 t573) ∧ Aside0 (Kd.R (Kd.int .i64) 3 wc w.heap.size (fun k_ => some k_ ≠ (v574 : Value).ownBlock ∧ some k_ ≠ (v590 : Value).ownBlock) v582 t581) ∧ Aside0 (Kd.R (Kd.int .i64) 3 wc w.heap.size (fun k_ => some k_ ≠ (v574 : Value).ownBlock ∧ some k_ ≠ (v582 : Value).ownBlock) v590 t589) ∧ Aside0 (Kd.R k64 64 wc w.heap.size (fun k_ => some k_ ≠ ((.slice Ao28 t578.length co28) : Value).ownBlock ∧ some k_ ≠ ((.slice Ao35 t586.length co35) : Value).ownBlock) (.slice Ao23 t570.length co23) t570) ∧ Aside0 (Kd.R k64 64 wc w.heap.size (fun k_ => some k_ ≠ ((.slice Ao23 t570.length co23) : Value).ownBlock ∧ some k_ ≠ ((.slice Ao35 t586.length co35) : Value).ownBlock) (.slice Ao28 t578.length co28) t578) ∧ Aside0 (Kd.R k64 64 wc w.heap.size (fun k_ => some k_ ≠ ((.slice Ao23 t570.length co23) : Value).ownBlock ∧ some k_ ≠ ((.slice Ao28 t578.length co28) : Value).ownBlock) (.slice Ao35 t586.length co35) t586) ∧ Aside0 (wc.heap[gb567]? = some (.cells #[(.slice A0_0 l0_0.length c0_0)] 45 (0, 0))) ∧ Aside0 (wc.heap[gb577]? = some (.cells #[(.slice Ao23 t570.length co23)] 45 (0, 0))) ∧ Aside0 (wc.heap[gb585]? = some (.cells #[(.slice Ao28 t578.length co28)] 45 (0, 0))) ∧ Aside0 (wc.heap[gb593]? = some (.cells #[(.slice Ao35 t586.length co35)] 45 (0, 0))) ∧ Aside0 (Below w.heap.size w wc))
     case first =>
      have H := HC19.out
      clear HC19
      by_cases c40 : t576 = 0
      ·rw [if_pos c40] at H
       have c40b0 : (t576 == 0) = true := beq_iff_eq.mpr c40
       have c40b1 : (t576 != 0) = false := bne_eq_false_iff_eq.mpr c40
       clear c40
       (first | rw [c40b0] | (simp only [i64_w, i32_w]; rw [c40b0]) | skip)
       have H' := Aside0.mk H
       clear H
       go_wp2
       go_meet
       case rel => exact ⟨_, ((t592 != 0)), (by first | rfl | (simp; done) | (simp [*]; done)), H', ⟨by have := HJ5.out; first | omega | exact Nat.le_refl _⟩, ⟨by (with_reducible repeat (first | apply Kd.R_alloc | apply Kd.R_drewN | apply Kd.R_drew)); exact Kd.R_mono (Kd.R_far (p := ⟨gb593, 0, none⟩) (Kd.R_types HO575.out BK593.out (by decide)) (fun _ hk => hk.2) (.slice Ao35 t586.length co35)) (fun _ hk => ⟨hk.1.1.2, hk.1.2⟩)⟩, ⟨by (with_reducible repeat (first | apply Kd.R_alloc | apply Kd.R_drewN | apply Kd.R_drew)); exact Kd.R_mono (Kd.R_far (p := ⟨gb593, 0, none⟩) (Kd.R_types HO583.out BK593.out (by decide)) (fun _ hk => hk.2) (.slice Ao35 t586.length co35)) (fun _ hk => ⟨hk.1.1.2, hk.1.2⟩)⟩, ⟨by (with_reducible repeat (first | apply Kd.R_alloc | apply Kd.R_drewN | apply Kd.R_drew)); exact Kd.R_mono (Kd.R_far (p := ⟨gb593, 0, none⟩) (Kd.R_types HO591.out BK593.out (by decide)) (fun _ hk => hk.2) (.slice Ao35 t586.length co35)) (fun _ hk => ⟨hk.1.1.2, hk.1.2⟩)⟩, ⟨by (with_reducible repeat (first | apply Kd.R_alloc | apply Kd.R_drewN | apply Kd.R_drew)); exact Kd.R_mono (Kd.R_far (p := ⟨gb593, 0, none⟩) (Kd.R_types HO572.out BK593.out (by decide)) (fun _ hk => hk.2) (.slice Ao35 t586.length co35)) (fun _ hk => ⟨hk.1.1.2, hk.1.2⟩)⟩, ⟨by (with_reducible repeat (first | apply Kd.R_alloc | apply Kd.R_drewN | apply Kd.R_drew)); exact Kd.R_mono (Kd.R_far (p := ⟨gb593, 0, none⟩) (Kd.R_types HO580.out BK593.out (by decide)) (fun _ hk => hk.2) (.slice Ao35 t586.length co35)) (fun _ hk => ⟨hk.1.1.2, hk.1.2⟩)⟩, ⟨by (with_reducible repeat (first | apply Kd.R_alloc | apply Kd.R_drewN | apply Kd.R_drew)); exact Kd.R_mono (Kd.R_far (p := ⟨gb593, 0, none⟩) (Kd.R_types HO588.out BK593.out (by decide)) (fun _ hk => hk.2) (.slice Ao35 t586.length co35)) (fun _ hk => ⟨hk.1.1.2, hk.1.2⟩)⟩, ⟨by (with_reducible repeat (first | refine blk_drewN ?_ _ | refine blk_drew ?_ | refine blk_alloc ?_ _)); refine blk_far ?_ NB567_593.out _; (with_reducible repeat (first | refine blk_drewN ?_ _ | refine blk_drew ?_ | refine blk_alloc ?_ _)); exact BK567.out⟩, ⟨by (with_reducible repeat (first | refine blk_drewN ?_ _ | refine blk_drew ?_ | refine blk_alloc ?_ _)); refine blk_far ?_ NB577_593.out _; (with_reducible repeat (first | refine blk_drewN ?_ _ | refine blk_drew ?_ | refine blk_alloc ?_ _)); exact BK577.out⟩, ⟨by (with_reducible repeat (first | refine blk_drewN ?_ _ | refine blk_drew ?_ | refine blk_alloc ?_ _)); refine blk_far ?_ NB585_593.out _; (with_reducible repeat (first | refine blk_drewN ?_ _ | refine blk_drew ?_ | refine blk_alloc ?_ _)); exact BK585.out⟩, ⟨by (with_reducible repeat (first | refine blk_drewN ?_ _ | refine blk_drew ?_ | refine blk_alloc ?_ _)); refine blk_put (cs := #[.slice none 0 0]) ?_ 0 _ rfl; (with_reducible repeat (first | refine blk_drewN ?_ _ | refine blk_drew ?_ | refine blk_alloc ?_ _)); exact BK593.out⟩, ⟨by repeat (first | (with_reducible first | exact HB.out | apply below_alloc | apply pw_below_drewN | apply below_drew1 | refine below_set ?_ GE567.out | refine below_set ?_ GE577.out | refine below_set ?_ GE585.out | refine below_set ?_ GE593.out) | exact HB.out)⟩⟩
      ·rw [if_neg c40] at H
       have c40b0 : (t576 == 0) = false := beq_eq_false_iff_ne.mpr c40
       have c40b1 : (t576 != 0) = true := bne_iff_ne.mpr c40
       (first | rw [c40b0] | (simp only [i64_w, i32_w]; rw [c40b0]) | skip)
       have H' := Aside0.mk H
       clear H
       go_wp2
       go_meet
       case rel => exact ⟨_, (true), (by first | rfl | (simp; done) | (simp [*]; done)), H', ⟨by have := HJ5.out; first | omega | exact Nat.le_refl _⟩, ⟨by (with_reducible repeat (first | apply Kd.R_alloc | apply Kd.R_drewN | apply Kd.R_drew)); exact Kd.R_mono (Kd.R_far (p := ⟨gb593, 0, none⟩) (Kd.R_types HO575.out BK593.out (by decide)) (fun _ hk => hk.2) (.slice Ao35 t586.length co35)) (fun _ hk => ⟨hk.1.1.2, hk.1.2⟩)⟩, ⟨by (with_reducible repeat (first | apply Kd.R_alloc | apply Kd.R_drewN | apply Kd.R_drew)); exact Kd.R_mono (Kd.R_far (p := ⟨gb593, 0, none⟩) (Kd.R_types HO583.out BK593.out (by decide)) (fun _ hk => hk.2) (.slice Ao35 t586.length co35)) (fun _ hk => ⟨hk.1.1.2, hk.1.2⟩)⟩, ⟨by (with_reducible repeat (first | apply Kd.R_alloc | apply Kd.R_drewN | apply Kd.R_drew)); exact Kd.R_mono (Kd.R_far (p := ⟨gb593, 0, none⟩) (Kd.R_types HO591.out BK593.out (by decide)) (fun _ hk => hk.2) (.slice Ao35 t586.length co35)) (fun _ hk => ⟨hk.1.1.2, hk.1.2⟩)⟩, ⟨by (with_reducible repeat (first | apply Kd.R_alloc | apply Kd.R_drewN | apply Kd.R_drew)); exact Kd.R_mono (Kd.R_far (p := ⟨gb593, 0, none⟩) (Kd.R_types HO572.out BK593.out (by decide)) (fun _ hk => hk.2) (.slice Ao35 t586.length co35)) (fun _ hk => ⟨hk.1.1.2, hk.1.2⟩)⟩, ⟨by (with_reducible repeat (first | apply Kd.R_alloc | apply Kd.R_drewN | apply Kd.R_drew)); exact Kd.R_mono (Kd.R_far (p := ⟨gb593, 0, none⟩) (Kd.R_types HO580.out BK593.out (by decide)) (fun _ hk => hk.2) (.slice Ao35 t586.length co35)) (fun _ hk => ⟨hk.1.1.2, hk.1.2⟩)⟩, ⟨by (with_reducible repeat (first | apply Kd.R_alloc | apply Kd.R_drewN | apply Kd.R_drew)); exact Kd.R_mono (Kd.R_far (p := ⟨gb593, 0, none⟩) (Kd.R_types HO588.out BK593.out (by decide)) (fun _ hk => hk.2) (.slice Ao35 t586.length co35)) (fun _ hk => ⟨hk.1.1.2, hk.1.2⟩)⟩, ⟨by (with_reducible repeat (first | refine blk_drewN ?_ _ | refine blk_drew ?_ | refine blk_alloc ?_ _)); refine blk_far ?_ NB567_593.out _; (with_reducible repeat (first | refine blk_drewN ?_ _ | refine blk_drew ?_ | refine blk_alloc ?_ _)); exact BK567.out⟩, ⟨by (with_reducible repeat (first | refine blk_drewN ?_ _ | refine blk_drew ?_ | refine blk_alloc ?_ _)); refine blk_far ?_ NB577_593.out _; (with_reducible repeat (first | refine blk_drewN ?_ _ | refine blk_drew ?_ | refine blk_alloc ?_ _)); exact BK577.out⟩, ⟨by (with_reducible repeat (first | refine blk_drewN ?_ _ | refine blk_drew ?_ | refine blk_alloc ?_ _)); refine blk_far ?_ NB585_593.out _; (with_reducible repeat (first | refine blk_drewN ?_ _ | refine blk_drew ?_ | refine blk_alloc ?_ _)); exact BK585.out⟩, ⟨by (with_reducible repeat (first | refine blk_drewN ?_ _ | refine blk_drew ?_ | refine blk_alloc ?_ _)); refine blk_put (cs := #[.slice none 0 0]) ?_ 0 _ rfl; (with_reducible repeat (first | refine blk_drewN ?_ _ | refine blk_drew ?_ | refine blk_alloc ?_ _)); exact BK593.out⟩, ⟨by repeat (first | (with_reducible first | exact HB.out | apply below_alloc | apply pw_below_drewN | apply below_drew1 | refine below_set ?_ GE567.out | refine below_set ?_ GE577.out | refine below_set ?_ GE585.out | refine below_set ?_ GE593.out) | exact HB.out)⟩⟩
     case rest =>
      clear HC19
      try clear c1
      try clear c2
      try clear p2
      try clear c3
      try clear c4
      try clear c5
      try clear c10
      try clear c15
      try clear c24
      try clear c29
      try clear c30
      try clear c32
      try clear c33
      try clear c36
      try clear c37
      try clear c38
      try clear c40
      try clear c40b0
      try clear c40b1
      try clear hcz11_0
      try clear hcz13_0
      try clear hcz20_0
      try clear hcz25_0
      try clear hcz31_0
      try clear hcz32_0
      try clear hcz39_0
      try clear hfz11_0
      try clear hfz13_0
      try clear hfz20_0
      try clear hfz25_0
      try clear hfz31_0
      try clear hfz32_0
      try clear hfz39_0
      try clear p2
      obtain ⟨kq, x53_18, rfl, HA, HJ18, HO_8, HO_11, HO_14, HO_578000, HO_586000, HO_594000, BK567, BK577, BK585, BK593, HB⟩ := hcut
      cases kq with
      | zero => exact absurd HA.out (by simp [crossbarlaw10_TimersExpireSplits.j1])
      | succ kj18 =>
       have H := HA.out
       clear HA
       simp only [crossbarlaw10_TimersExpireSplits.j1] at H
       by_cases c41 : x53_18 = true
       ·subst c41
        have H1 : (if t576 = 0 then (if t592 = 0 then (some false) else (some ((t589.length : Int) == 0))) else (if (t573.length : Int) = 0 then (some true) else (if t592 = 0 then (some false) else (some ((t589.length : Int) == 0))))) = some r := by rw [if_pos rfl] at H; exact H
        clear H
        have H := H1
        clear H1
        by_cases c42 : t576 = 0
        ·rw [if_pos c42] at H
         have c42b0 : (t576 == 0) = true := beq_iff_eq.mpr c42
         have c42b1 : (t576 != 0) = false := bne_eq_false_iff_eq.mpr c42
         clear c42
         by_cases c43 : t592 = 0
         ·rw [if_pos c43] at H
          have c43b0 : (t592 == 0) = true := beq_iff_eq.mpr c43
          have c43b1 : (t592 != 0) = false := bne_eq_false_iff_eq.mpr c43
          clear c43
          exact absurd ((Option.some.inj H).trans HT_TRUE.out) (by simp)
         ·rw [if_neg c43] at H
          have c43b0 : (t592 == 0) = false := beq_eq_false_iff_ne.mpr c43
          have c43b1 : (t592 != 0) = true := bne_iff_ne.mpr c43
          obtain rfl := Option.some.inj H
          obtain ⟨Ao44, co44, eo44⟩ := Kd.R_slice HO_14.out
          subst eo44
          go_wp2
          go_ret
          exact ⟨by first | rfl | (simp [errW_none, errW_some] <;> rfl) | (simp [*, errW_none, errW_some] <;> rfl), by repeat (first | (with_reducible first | exact HB.out | apply below_alloc | apply pw_below_drewN | apply below_drew1 | refine below_set ?_ GE567.out | refine below_set ?_ GE577.out | refine below_set ?_ GE585.out | refine below_set ?_ GE593.out) | exact HB.out)⟩
        ·rw [if_neg c42] at H
         have c42b0 : (t576 == 0) = false := beq_eq_false_iff_ne.mpr c42
         have c42b1 : (t576 != 0) = true := bne_iff_ne.mpr c42
         by_cases c45 : (t573.length : Int) = 0
         ·rw [if_pos c45] at H
          have c45b0 : ((t573.length : Int) == 0) = true := beq_iff_eq.mpr c45
          have c45b1 : ((t573.length : Int) != 0) = false := bne_eq_false_iff_eq.mpr c45
          clear c45
          obtain rfl := Option.some.inj H
          obtain ⟨Ao46, co46, eo46⟩ := Kd.R_slice HO_8.out
          subst eo46
          go_wp2
          go_ret
          exact ⟨by first | rfl | (simp [errW_none, errW_some] <;> rfl) | (simp [*, errW_none, errW_some] <;> rfl), by repeat (first | (with_reducible first | exact HB.out | apply below_alloc | apply pw_below_drewN | apply below_drew1 | refine below_set ?_ GE567.out | refine below_set ?_ GE577.out | refine below_set ?_ GE585.out | refine below_set ?_ GE593.out) | exact HB.out)⟩
         ·rw [if_neg c45] at H
          have c45b0 : ((t573.length : Int) == 0) = false := beq_eq_false_iff_ne.mpr c45
          have c45b1 : ((t573.length : Int) != 0) = true := bne_iff_ne.mpr c45
          have c45b2 : ¬ (t573 = []) := fun h_ => c45 (by rw [h_]; rfl)
          by_cases c47 : t592 = 0
          ·rw [if_pos c47] at H
           have c47b0 : (t592 == 0) = true := beq_iff_eq.mpr c47
           have c47b1 : (t592 != 0) = false := bne_eq_false_iff_eq.mpr c47
           clear c47
           exact absurd ((Option.some.inj H).trans HT_TRUE.out) (by simp)
          ·rw [if_neg c47] at H
           have c47b0 : (t592 == 0) = false := beq_eq_false_iff_ne.mpr c47
           have c47b1 : (t592 != 0) = true := bne_iff_ne.mpr c47
           obtain rfl := Option.some.inj H
           obtain ⟨Ao48, co48, eo48⟩ := Kd.R_slice HO_8.out
           subst eo48
           obtain ⟨Ao49, co49, eo49⟩ := Kd.R_slice HO_14.out
           subst eo49
           go_wp2
           go_ret
           exact ⟨by first | rfl | (simp [errW_none, errW_some] <;> rfl) | (simp [*, errW_none, errW_some] <;> rfl), by repeat (first | (with_reducible first | exact HB.out | apply below_alloc | apply pw_below_drewN | apply below_drew1 | refine below_set ?_ GE567.out | refine below_set ?_ GE577.out | refine below_set ?_ GE585.out | refine below_set ?_ GE593.out) | exact HB.out)⟩
       ·replace c41 := Bool.eq_false_iff.mpr c41
        subst c41
        have H1 : ((some (([] : List Int) : List Int)).bind fun y594 => (if y594.length + t573.length < 17592186044416 then ((some (y594 ++ t573 : List Int)).bind fun y597 => (if y597.length + t581.length < 17592186044416 then (if t584 = 0 then ((crossbarref10_Same.f kj18 t578 t586).bind fun t603 => (if t603 = true then ((crossbarref10_Ints.f kj18 (y597 ++ t581) t589).bind fun t604 => (some t604)) else (some false))) else (some false)) else (none))) else (none))) = some r := by rw [if_neg (show ¬ (false = true) by decide)] at H; exact H
        clear H
        have H := H1
        clear H1
        obtain ⟨y594, hy594⟩ : ∃ y_ : List Int, y_ = (([] : List Int)) := ⟨_, rfl⟩
        replace H : (if y594.length + t573.length < 17592186044416 then ((some (y594 ++ t573 : List Int)).bind fun y597 => (if y597.length + t581.length < 17592186044416 then (if t584 = 0 then ((crossbarref10_Same.f kj18 t578 t586).bind fun t603 => (if t603 = true then ((crossbarref10_Ints.f kj18 (y597 ++ t581) t589).bind fun t604 => (some t604)) else (some false))) else (some false)) else (none))) else (none)) = some r := by first | (rw [hy594]; with_reducible exact H) | (have H2_ := (Option.bind_some _ _).symm.trans H; rw [hy594]; with_reducible exact H2_) | (have H2_ := (Option.bind_some _ _).symm.trans H; with_reducible exact H2_) | with_reducible exact H | (rw [hy594]; exact H) | exact H
        have Ny594 := Aside0.mk hy594
        clear hy594
        by_cases c50 : y594.length + t573.length < 17592186044416
        ·rw [if_pos c50] at H
         have LMc50 := Aside0.mk c50
         clear c50
         obtain ⟨y597, hy597⟩ : ∃ y_ : List Int, y_ = (y594 ++ t573) := ⟨_, rfl⟩
         replace H : (if y597.length + t581.length < 17592186044416 then (if t584 = 0 then ((crossbarref10_Same.f kj18 t578 t586).bind fun t603 => (if t603 = true then ((crossbarref10_Ints.f kj18 (y597 ++ t581) t589).bind fun t604 => (some t604)) else (some false))) else (some false)) else (none)) = some r := by first | (rw [hy597]; with_reducible exact H) | (have H2_ := (Option.bind_some _ _).symm.trans H; rw [hy597]; with_reducible exact H2_) | (have H2_ := (Option.bind_some _ _).symm.trans H; with_reducible exact H2_) | with_reducible exact H | (rw [hy597]; exact H) | exact H
         have Ny597 := Aside0.mk hy597
         clear hy597
         by_cases c51 : y597.length + t581.length < 17592186044416
         ·rw [if_pos c51] at H
          have LMc51 := Aside0.mk c51
          clear c51
          obtain ⟨y600, hy600⟩ : ∃ y_ : List Int, y_ = (y597 ++ t581) := ⟨_, rfl⟩
          replace H : (if t584 = 0 then ((crossbarref10_Same.f kj18 t578 t586).bind fun t603 => (if t603 = true then ((crossbarref10_Ints.f kj18 y600 t589).bind fun t604 => (some t604)) else (some false))) else (some false)) = some r := by first | (rw [hy600]; with_reducible exact H) | (have H2_ := (Option.bind_some _ _).symm.trans H; rw [hy600]; with_reducible exact H2_) | (have H2_ := (Option.bind_some _ _).symm.trans H; with_reducible exact H2_) | with_reducible exact H | (rw [hy600]; exact H) | exact H
          have Ny600 := Aside0.mk hy600
          clear hy600
          by_cases c52 : t584 = 0
          ·rw [if_pos c52] at H
           have c52b0 : (t584 == 0) = true := beq_iff_eq.mpr c52
           have c52b1 : (t584 != 0) = false := bne_eq_false_iff_eq.mpr c52
           clear c52
           replace H := Option.bind_eq_some_iff.mp H
           obtain ⟨t603, A530, H⟩ := H
           replace H : (if t603 = true then ((crossbarref10_Ints.f kj18 y600 t589).bind fun t604 => (some t604)) else (some false)) = some r := H
           have A53 := Aside0.mk A530
           clear A530
           by_cases c54 : t603 = true
           ·subst c54
            have H1 : ((crossbarref10_Ints.f kj18 y600 t589).bind fun t604 => (some t604)) = some r := by rw [if_pos rfl] at H; exact H
            clear H
            have H := H1
            clear H1
            replace H := Option.bind_eq_some_iff.mp H
            obtain ⟨t604, A550, H⟩ := H
            replace H : (some t604) = some r := H
            have A55 := Aside0.mk A550
            clear A550
            obtain rfl := Option.some.inj H
            go_wp2_with (first | ((with_reducible refine gate_dst (N := 70) rfl ?_); (try (refine gate_guard (by rfl) ?_; dsimp only)); refine Kd.R_lit (Kd.int .i64) _ 3 ?hg (N := 70) ?hd (xs := ([] : List Int)) (inner := []) (ok := fun _ => True) (okp := fun _ => True) ?hr ?hp (fun _ hk => hk) trivial (Below.refl _ _) (Nat.le_refl _) (by simp) ?_; (case hd => rfl); (case hg => rfl); (case hr => first | (go_simp; done) | (go_simp; rfl)); (case hp => exact (Reps.none _ _)); intro v595 w56 ho57 hb hg_ hnew_; clear hg_ hnew_; (first | rw [← Ny594.out] at ho57 | (simp only [Int.reduceToNat] at ho57; rw [← Ny594.out] at ho57)); have n0_ := Aside0.mk (Kd.R_elder' (by (with_reducible repeat (first | apply Kd.R_alloc | apply Kd.R_drewN | apply Kd.R_drew)); exact HO_8.out) (Kd.R_base ho57) hb); have n1_ := Aside0.mk (Kd.R_elder' (by (with_reducible repeat (first | apply Kd.R_alloc | apply Kd.R_drewN | apply Kd.R_drew)); exact HO_11.out) (Kd.R_base ho57) hb); have n2_ := Aside0.mk (Kd.R_elder' (by (with_reducible repeat (first | apply Kd.R_alloc | apply Kd.R_drewN | apply Kd.R_drew)); exact HO_14.out) (Kd.R_base ho57) hb); have n3_ := Aside0.mk (Kd.R_below (by (with_reducible repeat (first | apply Kd.R_alloc | apply Kd.R_drewN | apply Kd.R_drew)); exact HO_578000.out) hb); have n4_ := Aside0.mk (Kd.R_below (by (with_reducible repeat (first | apply Kd.R_alloc | apply Kd.R_drewN | apply Kd.R_drew)); exact HO_586000.out) hb); have n5_ := Aside0.mk (Kd.R_below (by (with_reducible repeat (first | apply Kd.R_alloc | apply Kd.R_drewN | apply Kd.R_drew)); exact HO_594000.out) hb); have n6_ := Aside0.mk (Kd.R_lower (Kd.R_new' (Kd.R_new' (Kd.R_new' ho57 (Kd.R_lt (by (with_reducible repeat (first | apply Kd.R_alloc | apply Kd.R_drewN | apply Kd.R_drew)); exact HO_8.out))) (Kd.R_lt (by (with_reducible repeat (first | apply Kd.R_alloc | apply Kd.R_drewN | apply Kd.R_drew)); exact HO_11.out))) (Kd.R_lt (by (with_reducible repeat (first | apply Kd.R_alloc | apply Kd.R_drewN | apply Kd.R_drew)); exact HO_14.out))) (below_size (by repeat (first | (with_reducible first | exact HB.out | apply below_alloc | apply pw_below_drewN | apply below_drew1 | refine below_set ?_ GE567.out | refine below_set ?_ GE577.out | refine below_set ?_ GE585.out | refine below_set ?_ GE593.out) | exact HB.out)))); have n7_ := Aside0.mk (blk_below (g := gb567) (o := .cells #[.slice A0_0 l0_0.length c0_0] 45 (0, 0)) (by (with_reducible repeat (first | refine blk_drewN ?_ _ | refine blk_drew ?_ | refine blk_alloc ?_ _)); exact BK567.out) hb); have n8_ := Aside0.mk (blk_below (g := gb577) (o := .cells #[.slice Ao23 t570.length co23] 45 (0, 0)) (by (with_reducible repeat (first | refine blk_drewN ?_ _ | refine blk_drew ?_ | refine blk_alloc ?_ _)); exact BK577.out) hb); have n9_ := Aside0.mk (blk_below (g := gb585) (o := .cells #[.slice Ao28 t578.length co28] 45 (0, 0)) (by (with_reducible repeat (first | refine blk_drewN ?_ _ | refine blk_drew ?_ | refine blk_alloc ?_ _)); exact BK585.out) hb); have n10_ := Aside0.mk (blk_below (g := gb593) (o := .cells #[.slice Ao35 t586.length co35] 45 (0, 0)) (by (with_reducible repeat (first | refine blk_drewN ?_ _ | refine blk_drew ?_ | refine blk_alloc ?_ _)); exact BK593.out) hb); have n11_ := Aside0.mk (below_step (by repeat (first | (with_reducible first | exact HB.out | apply below_alloc | apply pw_below_drewN | apply below_drew1 | refine below_set ?_ GE567.out | refine below_set ?_ GE577.out | refine below_set ?_ GE585.out | refine below_set ?_ GE593.out) | exact HB.out)) hb); clear HO_8; clear HO_11; clear HO_14; clear HO_578000; clear HO_586000; clear HO_594000; clear BK567; clear BK577; clear BK585; clear BK593; clear HB; have HO_8 := n0_; have HO_11 := n1_; have HO_14 := n2_; have HO_578000 := n3_; have HO_586000 := n4_; have HO_594000 := n5_; have HO596 := n6_; have BK567 := n7_; have BK577 := n8_; have BK585 := n9_; have BK593 := n10_; have HB := n11_; clear n0_ n1_ n2_ n3_ n4_ n5_ n6_ n7_ n8_ n9_ n10_ n11_; clear hb ho57; obtain ⟨Ao59, co59, eo59⟩ := Kd.R_slice HO_8.out; subst eo59) | ((with_reducible refine gate_builtin (b := .append) (xs := #[.tmp 70, .tmp 71]) rfl ?_); (try (refine gate_guard (by rfl) ?_; dsimp only)); at_builtin; refine Kd.R_append_rows (Kd.int .i64) (w0 := w) w.heap.size rfl (.tmp 70) (.tmp 71) 55 3 (.int .i64 0) 8 rfl Try.underlying55 info3 rfl (by decide) (by omega) v595 y594 t573 _ _ _ (fun k_ => some k_ ≠ (.slice Ao59 t573.length co59 : Value).ownBlock ∧ some k_ ≠ (v582 : Value).ownBlock ∧ some k_ ≠ (v590 : Value).ownBlock) (fun _ => False) rfl rfl ?aO ?aR (fun _ _ h => h) (fun _ h => h.elim) ?aF ?aB ?aS ?aL ?_; (case aR => repeat (first | exact (Kd.R_reads' HO_8.out).2.2 | (with_reducible refine Kd.C_alloc ?_ _) | (with_reducible refine Kd.C_drewN ?_ _) | (with_reducible refine Kd.C_drew ?_))); (case aB => exact (by repeat (first | (with_reducible first | exact HB.out | apply below_alloc | apply pw_below_drewN | apply below_drew1 | refine below_set ?_ GE567.out | refine below_set ?_ GE577.out | refine below_set ?_ GE585.out | refine below_set ?_ GE593.out) | exact HB.out))); (case aF => exact (fun k_ hk => ⟨Kd.fresh' (Kd.R_lt (by (with_reducible repeat (first | apply Kd.R_alloc | apply Kd.R_drewN | apply Kd.R_drew)); exact HO_8.out)) k_ hk, Kd.fresh' (Kd.R_lt (by (with_reducible repeat (first | apply Kd.R_alloc | apply Kd.R_drewN | apply Kd.R_drew)); exact HO_11.out)) k_ hk, Kd.fresh' (Kd.R_lt (by (with_reducible repeat (first | apply Kd.R_alloc | apply Kd.R_drewN | apply Kd.R_drew)); exact HO_14.out)) k_ hk⟩)); (case aO => exact (by (with_reducible repeat (first | apply Kd.R_alloc | apply Kd.R_drewN | apply Kd.R_drew)); exact Kd.R_mono HO596.out (fun _ hk => ⟨hk.1.1.2, ⟨hk.1.2, hk.2⟩⟩))); (case aS => exact (below_size (by repeat (first | (with_reducible first | exact HB.out | apply below_alloc | apply pw_below_drewN | apply below_drew1 | refine below_set ?_ GE567.out | refine below_set ?_ GE577.out | refine below_set ?_ GE585.out | refine below_set ?_ GE593.out) | exact HB.out)))); (case aL => have := LMc50.out; omega); intro v598 w58 ho hb hg hat; rw [← Ny597.out] at ho; have n0_ := Aside0.mk (Kd.R_after (ok := (fun k_ => some k_ ≠ (v582 : Value).ownBlock ∧ some k_ ≠ (v590 : Value).ownBlock)) (by (with_reducible repeat (first | apply Kd.R_alloc | apply Kd.R_drewN | apply Kd.R_drew)); exact HO_8.out) hg hat); have n1_ := Aside0.mk (Kd.R_after (ok := (fun k_ => some k_ ≠ (.slice Ao59 t573.length co59 : Value).ownBlock ∧ some k_ ≠ (v590 : Value).ownBlock)) (by (with_reducible repeat (first | apply Kd.R_alloc | apply Kd.R_drewN | apply Kd.R_drew)); exact HO_11.out) hg hat); have n2_ := Aside0.mk (Kd.R_after (ok := (fun k_ => some k_ ≠ (.slice Ao59 t573.length co59 : Value).ownBlock ∧ some k_ ≠ (v582 : Value).ownBlock)) (by (with_reducible repeat (first | apply Kd.R_alloc | apply Kd.R_drewN | apply Kd.R_drew)); exact HO_14.out) hg hat); have n3_ := Aside0.mk (Kd.R_over' (by (with_reducible repeat (first | apply Kd.R_alloc | apply Kd.R_drewN | apply Kd.R_drew)); exact HO_578000.out) (Kd.R_typed (by (with_reducible repeat (first | apply Kd.R_alloc | apply Kd.R_drewN | apply Kd.R_drew)); exact HO596.out)) (by decide) hg); have n4_ := Aside0.mk (Kd.R_over' (by (with_reducible repeat (first | apply Kd.R_alloc | apply Kd.R_drewN | apply Kd.R_drew)); exact HO_586000.out) (Kd.R_typed (by (with_reducible repeat (first | apply Kd.R_alloc | apply Kd.R_drewN | apply Kd.R_drew)); exact HO596.out)) (by decide) hg); have n5_ := Aside0.mk (Kd.R_over' (by (with_reducible repeat (first | apply Kd.R_alloc | apply Kd.R_drewN | apply Kd.R_drew)); exact HO_594000.out) (Kd.R_typed (by (with_reducible repeat (first | apply Kd.R_alloc | apply Kd.R_drewN | apply Kd.R_drew)); exact HO596.out)) (by decide) hg); have n6_ := Aside0.mk (blk_grown (g := gb567) (o := .cells #[.slice A0_0 l0_0.length c0_0] 45 (0, 0)) (by (with_reducible repeat (first | refine blk_drewN ?_ _ | refine blk_drew ?_ | refine blk_alloc ?_ _)); exact BK567.out) hg (Kd.R_ne HO596.out BK567.out (by decide))); have n7_ := Aside0.mk (blk_grown (g := gb577) (o := .cells #[.slice Ao23 t570.length co23] 45 (0, 0)) (by (with_reducible repeat (first | refine blk_drewN ?_ _ | refine blk_drew ?_ | refine blk_alloc ?_ _)); exact BK577.out) hg (Kd.R_ne HO596.out BK577.out (by decide))); have n8_ := Aside0.mk (blk_grown (g := gb585) (o := .cells #[.slice Ao28 t578.length co28] 45 (0, 0)) (by (with_reducible repeat (first | refine blk_drewN ?_ _ | refine blk_drew ?_ | refine blk_alloc ?_ _)); exact BK585.out) hg (Kd.R_ne HO596.out BK585.out (by decide))); have n9_ := Aside0.mk (blk_grown (g := gb593) (o := .cells #[.slice Ao35 t586.length co35] 45 (0, 0)) (by (with_reducible repeat (first | refine blk_drewN ?_ _ | refine blk_drew ?_ | refine blk_alloc ?_ _)); exact BK593.out) hg (Kd.R_ne HO596.out BK593.out (by decide))); have n10_ := Aside0.mk (hb); have n11_ := Aside0.mk (ho); clear HO_8; clear HO_11; clear HO_14; clear HO_578000; clear HO_586000; clear HO_594000; clear BK567; clear BK577; clear BK585; clear BK593; clear HB; clear HO596; have HO_8 := n0_; have HO_11 := n1_; have HO_14 := n2_; have HO_578000 := n3_; have HO_586000 := n4_; have HO_594000 := n5_; have BK567 := n6_; have BK577 := n7_; have BK585 := n8_; have BK593 := n9_; have HB := n10_; have HO599 := n11_; clear n0_ n1_ n2_ n3_ n4_ n5_ n6_ n7_ n8_ n9_ n10_ n11_; clear ho hb hg hat; obtain ⟨Ao61, co61, eo61⟩ := Kd.R_slice HO_11.out; subst eo61) | ((with_reducible refine gate_builtin (b := .append) (xs := #[.tmp 73, .tmp 74]) rfl ?_); (try (refine gate_guard (by rfl) ?_; dsimp only)); at_builtin; refine Kd.R_append_rows (Kd.int .i64) (w0 := w) w.heap.size rfl (.tmp 73) (.tmp 74) 55 3 (.int .i64 0) 8 rfl Try.underlying55 info3 rfl (by decide) (by omega) v598 y597 t581 _ _ _ (fun k_ => some k_ ≠ (.slice Ao59 t573.length co59 : Value).ownBlock ∧ some k_ ≠ (.slice Ao61 t581.length co61 : Value).ownBlock ∧ some k_ ≠ (v590 : Value).ownBlock) (fun _ => False) rfl rfl ?aO ?aR (fun _ _ h => h) (fun _ h => h.elim) ?aF ?aB ?aS ?aL ?_; (case aR => repeat (first | exact (Kd.R_reads' HO_11.out).2.2 | (with_reducible refine Kd.C_alloc ?_ _) | (with_reducible refine Kd.C_drewN ?_ _) | (with_reducible refine Kd.C_drew ?_))); (case aB => exact (by repeat (first | (with_reducible first | exact HB.out | apply below_alloc | apply pw_below_drewN | apply below_drew1 | refine below_set ?_ GE567.out | refine below_set ?_ GE577.out | refine below_set ?_ GE585.out | refine below_set ?_ GE593.out) | exact HB.out))); (case aF => exact (fun k_ hk => ⟨Kd.fresh' (Kd.R_lt (by (with_reducible repeat (first | apply Kd.R_alloc | apply Kd.R_drewN | apply Kd.R_drew)); exact HO_8.out)) k_ hk, Kd.fresh' (Kd.R_lt (by (with_reducible repeat (first | apply Kd.R_alloc | apply Kd.R_drewN | apply Kd.R_drew)); exact HO_11.out)) k_ hk, Kd.fresh' (Kd.R_lt (by (with_reducible repeat (first | apply Kd.R_alloc | apply Kd.R_drewN | apply Kd.R_drew)); exact HO_14.out)) k_ hk⟩)); (case aO => exact (by (with_reducible repeat (first | apply Kd.R_alloc | apply Kd.R_drewN | apply Kd.R_drew)); exact HO599.out)); (case aS => exact (below_size (by repeat (first | (with_reducible first | exact HB.out | apply below_alloc | apply pw_below_drewN | apply below_drew1 | refine below_set ?_ GE567.out | refine below_set ?_ GE577.out | refine below_set ?_ GE585.out | refine below_set ?_ GE593.out) | exact HB.out)))); (case aL => have := LMc51.out; omega); intro v601 w60 ho hb hg hat; rw [← Ny600.out] at ho; have n0_ := Aside0.mk (Kd.R_after (ok := (fun k_ => some k_ ≠ (.slice Ao61 t581.length co61 : Value).ownBlock ∧ some k_ ≠ (v590 : Value).ownBlock)) (by (with_reducible repeat (first | apply Kd.R_alloc | apply Kd.R_drewN | apply Kd.R_drew)); exact HO_8.out) hg hat); have n1_ := Aside0.mk (Kd.R_after (ok := (fun k_ => some k_ ≠ (.slice Ao59 t573.length co59 : Value).ownBlock ∧ some k_ ≠ (v590 : Value).ownBlock)) (by (with_reducible repeat (first | apply Kd.R_alloc | apply Kd.R_drewN | apply Kd.R_drew)); exact HO_11.out) hg hat); have n2_ := Aside0.mk (Kd.R_after (ok := (fun k_ => some k_ ≠ (.slice Ao59 t573.length co59 : Value).ownBlock ∧ some k_ ≠ (.slice Ao61 t581.length co61 : Value).ownBlock)) (by (with_reducible repeat (first | apply Kd.R_alloc | apply Kd.R_drewN | apply Kd.R_drew)); exact HO_14.out) hg hat); have n3_ := Aside0.mk (Kd.R_over' (by (with_reducible repeat (first | apply Kd.R_alloc | apply Kd.R_drewN | apply Kd.R_drew)); exact HO_578000.out) (Kd.R_typed (by (with_reducible repeat (first | apply Kd.R_alloc | apply Kd.R_drewN | apply Kd.R_drew)); exact HO599.out)) (by decide) hg); have n4_ := Aside0.mk (Kd.R_over' (by (with_reducible repeat (first | apply Kd.R_alloc | apply Kd.R_drewN | apply Kd.R_drew)); exact HO_586000.out) (Kd.R_typed (by (with_reducible repeat (first | apply Kd.R_alloc | apply Kd.R_drewN | apply Kd.R_drew)); exact HO599.out)) (by decide) hg); have n5_ := Aside0.mk (Kd.R_over' (by (with_reducible repeat (first | apply Kd.R_alloc | apply Kd.R_drewN | apply Kd.R_drew)); exact HO_594000.out) (Kd.R_typed (by (with_reducible repeat (first | apply Kd.R_alloc | apply Kd.R_drewN | apply Kd.R_drew)); exact HO599.out)) (by decide) hg); have n6_ := Aside0.mk (blk_grown (g := gb567) (o := .cells #[.slice A0_0 l0_0.length c0_0] 45 (0, 0)) (by (with_reducible repeat (first | refine blk_drewN ?_ _ | refine blk_drew ?_ | refine blk_alloc ?_ _)); exact BK567.out) hg (Kd.R_ne HO599.out BK567.out (by decide))); have n7_ := Aside0.mk (blk_grown (g := gb577) (o := .cells #[.slice Ao23 t570.length co23] 45 (0, 0)) (by (with_reducible repeat (first | refine blk_drewN ?_ _ | refine blk_drew ?_ | refine blk_alloc ?_ _)); exact BK577.out) hg (Kd.R_ne HO599.out BK577.out (by decide))); have n8_ := Aside0.mk (blk_grown (g := gb585) (o := .cells #[.slice Ao28 t578.length co28] 45 (0, 0)) (by (with_reducible repeat (first | refine blk_drewN ?_ _ | refine blk_drew ?_ | refine blk_alloc ?_ _)); exact BK585.out) hg (Kd.R_ne HO599.out BK585.out (by decide))); have n9_ := Aside0.mk (blk_grown (g := gb593) (o := .cells #[.slice Ao35 t586.length co35] 45 (0, 0)) (by (with_reducible repeat (first | refine blk_drewN ?_ _ | refine blk_drew ?_ | refine blk_alloc ?_ _)); exact BK593.out) hg (Kd.R_ne HO599.out BK593.out (by decide))); have n10_ := Aside0.mk (hb); have n11_ := Aside0.mk (ho); clear HO_8; clear HO_11; clear HO_14; clear HO_578000; clear HO_586000; clear HO_594000; clear BK567; clear BK577; clear BK585; clear BK593; clear HB; clear HO599; have HO_8 := n0_; have HO_11 := n1_; have HO_14 := n2_; have HO_578000 := n3_; have HO_586000 := n4_; have HO_594000 := n5_; have BK567 := n6_; have BK577 := n7_; have BK585 := n8_; have BK593 := n9_; have HB := n10_; have HO602 := n11_; clear n0_ n1_ n2_ n3_ n4_ n5_ n6_ n7_ n8_ n9_ n10_ n11_; clear ho hb hg hat; have hnb62 := NB585_567.out; have hnc62 := NB567_585.out; have hnb63 := NB585_577.out; have hnc63 := NB577_585.out; have hnb64 := NB585_593.out; have hnc64 := NB593_585.out; have hcz65_0 : w60.cell? ⟨gb585, 0, none⟩ = some (.slice Ao28 t578.length co28) := (blk_cell BK585.out 0).trans rfl; have hfz65_0 := blk_frozen BK585.out 0; have hnb66 := NB593_567.out; have hnc66 := NB567_593.out; have hnb67 := NB593_577.out; have hnc67 := NB577_593.out; have hcz68_0 : w60.cell? ⟨gb593, 0, none⟩ = some (.slice Ao35 t586.length co35) := (blk_cell BK593.out 0).trans rfl; have hfz68_0 := blk_frozen BK593.out 0) | (go_at_call 42; (with_reducible refine (crossbarref10_Same.calls kj18 _ _ t578 _ _ t586 true _ ?side1 ?side2 ?side3 ?side4 A53.out).mono ?_); (case side1 => repeat (first | exact (Kd.R_reads' HO_586000.out).2.2 | (with_reducible refine Kd.C_alloc ?_ _) | (with_reducible refine Kd.C_drewN ?_ _) | (with_reducible refine Kd.C_drew ?_))); (case side2 => exact (Kd.R_reads' HO_586000.out).2.1); (case side3 => repeat (first | exact (Kd.R_reads' HO_594000.out).2.2 | (with_reducible refine Kd.C_alloc ?_ _) | (with_reducible refine Kd.C_drewN ?_ _) | (with_reducible refine Kd.C_drew ?_))); (case side4 => exact (Kd.R_reads' HO_594000.out).2.1); rintro e w69 ⟨rfl, hb⟩; have n0_ := Aside0.mk (Kd.R_below (by (with_reducible repeat (first | apply Kd.R_alloc | apply Kd.R_drewN | apply Kd.R_drew)); exact HO_8.out) hb); have n1_ := Aside0.mk (Kd.R_below (by (with_reducible repeat (first | apply Kd.R_alloc | apply Kd.R_drewN | apply Kd.R_drew)); exact HO_11.out) hb); have n2_ := Aside0.mk (Kd.R_below (by (with_reducible repeat (first | apply Kd.R_alloc | apply Kd.R_drewN | apply Kd.R_drew)); exact HO_14.out) hb); have n3_ := Aside0.mk (Kd.R_below (by (with_reducible repeat (first | apply Kd.R_alloc | apply Kd.R_drewN | apply Kd.R_drew)); exact HO_578000.out) hb); have n4_ := Aside0.mk (Kd.R_below (by (with_reducible repeat (first | apply Kd.R_alloc | apply Kd.R_drewN | apply Kd.R_drew)); exact HO_586000.out) hb); have n5_ := Aside0.mk (Kd.R_below (by (with_reducible repeat (first | apply Kd.R_alloc | apply Kd.R_drewN | apply Kd.R_drew)); exact HO_594000.out) hb); have n6_ := Aside0.mk (Kd.R_below (by (with_reducible repeat (first | apply Kd.R_alloc | apply Kd.R_drewN | apply Kd.R_drew)); exact HO602.out) hb); have n7_ := Aside0.mk (blk_below (g := gb567) (o := .cells #[.slice A0_0 l0_0.length c0_0] 45 (0, 0)) (by (with_reducible repeat (first | refine blk_drewN ?_ _ | refine blk_drew ?_ | refine blk_alloc ?_ _)); exact BK567.out) hb); have n8_ := Aside0.mk (blk_below (g := gb577) (o := .cells #[.slice Ao23 t570.length co23] 45 (0, 0)) (by (with_reducible repeat (first | refine blk_drewN ?_ _ | refine blk_drew ?_ | refine blk_alloc ?_ _)); exact BK577.out) hb); have n9_ := Aside0.mk (blk_below (g := gb585) (o := .cells #[.slice Ao28 t578.length co28] 45 (0, 0)) (by (with_reducible repeat (first | refine blk_drewN ?_ _ | refine blk_drew ?_ | refine blk_alloc ?_ _)); exact BK585.out) hb); have n10_ := Aside0.mk (blk_below (g := gb593) (o := .cells #[.slice Ao35 t586.length co35] 45 (0, 0)) (by (with_reducible repeat (first | refine blk_drewN ?_ _ | refine blk_drew ?_ | refine blk_alloc ?_ _)); exact BK593.out) hb); have n11_ := Aside0.mk (below_step (by repeat (first | (with_reducible first | exact HB.out | apply below_alloc | apply pw_below_drewN | apply below_drew1 | refine below_set ?_ GE567.out | refine below_set ?_ GE577.out | refine below_set ?_ GE585.out | refine below_set ?_ GE593.out) | exact HB.out)) hb); clear HO_8; clear HO_11; clear HO_14; clear HO_578000; clear HO_586000; clear HO_594000; clear HO602; clear BK567; clear BK577; clear BK585; clear BK593; clear HB; have HO_8 := n0_; have HO_11 := n1_; have HO_14 := n2_; have HO_578000 := n3_; have HO_586000 := n4_; have HO_594000 := n5_; have HO602 := n6_; have BK567 := n7_; have BK577 := n8_; have BK585 := n9_; have BK593 := n10_; have HB := n11_; clear n0_ n1_ n2_ n3_ n4_ n5_ n6_ n7_ n8_ n9_ n10_ n11_; (try clear hb); (try clear hb2); (try clear hk); (try clear hi); obtain ⟨Ao70, co70, eo70⟩ := Kd.R_slice HO602.out; subst eo70; obtain ⟨Ao71, co71, eo71⟩ := Kd.R_slice HO_14.out; subst eo71) | (go_at_call 45; (with_reducible refine (crossbarref10_Ints.calls kj18 _ _ y600 _ _ t589 t604 _ ?side1 ?side2 ?side3 ?side4 A55.out).mono ?_); (case side1 => repeat (first | exact (Kd.R_reads' HO602.out).2.2 | (with_reducible refine Kd.C_alloc ?_ _) | (with_reducible refine Kd.C_drewN ?_ _) | (with_reducible refine Kd.C_drew ?_))); (case side2 => exact (Kd.R_reads' HO602.out).2.1); (case side3 => repeat (first | exact (Kd.R_reads' HO_14.out).2.2 | (with_reducible refine Kd.C_alloc ?_ _) | (with_reducible refine Kd.C_drewN ?_ _) | (with_reducible refine Kd.C_drew ?_))); (case side4 => exact (Kd.R_reads' HO_14.out).2.1); rintro e w' ⟨rfl, ⟨nd, rfl⟩⟩))
            go_ret
            exact ⟨by first | rfl | (simp [errW_none, errW_some] <;> rfl) | (simp [*, errW_none, errW_some] <;> rfl), by repeat (first | (with_reducible first | exact HB.out | apply below_alloc | apply pw_below_drewN | apply below_drew1 | refine below_set ?_ GE567.out | refine below_set ?_ GE577.out | refine below_set ?_ GE585.out | refine below_set ?_ GE593.out) | exact HB.out)⟩
           ·replace c54 := Bool.eq_false_iff.mpr c54
            subst c54
            have H1 : (some false) = some r := by rw [if_neg (show ¬ (false = true) by decide)] at H; exact H
            clear H
            have H := H1
            clear H1
            exact absurd ((Option.some.inj H).trans HT_TRUE.out) (by simp)
          ·rw [if_neg c52] at H
           have c52b0 : (t584 == 0) = false := beq_eq_false_iff_ne.mpr c52
           have c52b1 : (t584 != 0) = true := bne_iff_ne.mpr c52
           exact absurd ((Option.some.inj H).trans HT_TRUE.out) (by simp)
         ·rw [if_neg c51] at H
          exact absurd H (by simp)
        ·rw [if_neg c50] at H
         exact absurd H (by simp)
 ·replace c5 := Bool.eq_false_iff.mpr c5
  subst c5
  have H1 : (some false) = some r := by rw [if_neg (show ¬ (false = true) by decide)] at H; exact H
  clear H
  have H := H1
  clear H1
  exact absurd ((Option.some.inj H).trans HT_TRUE.out) (by simp)

end Go.Proofs.Ytldpacphackdjaa.Print
