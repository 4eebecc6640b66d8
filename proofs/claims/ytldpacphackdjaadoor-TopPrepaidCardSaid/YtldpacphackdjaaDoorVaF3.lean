/- That the call of function 3 (crossbartop_TopPrepaid) answers what the Lean function of the same name answers, at every input at which that one answers. (Written by a program of the session, which drives the kit's printer.) -/
import Derived.Test.YtldpacphackdjaaDoorVaSq
import Derived.Test.YtldpacphackdjaaDoorVa3
import Derived.Test.YtldpacphackdjaaDoorVa6
import Derived.Test.YtldpacphackdjaaDoorVaHMStop
import Derived.Test.YtldpacphackdjaaDoorVa9
import Derived.Test.YtldpacphackdjaaDoorVaHPSettle
import Derived.Test.YtldpacphackdjaaDoorVaK0
import Derived.Test.YtldpacphackdjaaDoorVa1
namespace Go.Proofs.YtldpacphackdjaaDoor.Print
open Go.RowKit Go.Proofs.YtldpacphackdjaaDoorW.PrintWords Go.Proofs.YtldpacphackdjaaDoorW.PrintLast Go.Proofs.YtldpacphackdjaaDoorW.PrintMore
attribute [local go_sem] max2_int min2_int max_two min_two max_three min_three max_four min_four   -- for this text's walks alone
set_option linter.unusedVariables false
set_option linter.unusedSimpArgs false

/-! ### crossbartop_TopPrepaid: function 3 -/
mutual
noncomputable def crossbartop_TopPrepaid.j0 : Nat → Int → Int → Int → Bool → List (S70) → Option (Bool)
 | 0, _, _, _, _, _ => none
 | k + 1, x1, x2, x3, x63, x504000 => if x63 = true then (some true) else ((tariff_Afford.f x504000 x2 x1 x3).bind fun bt505 => (if bt505.2 = 0 then (crossbartop_TopPrepaid.j1 k x1 x2 x3 bt505.1 (decide (bt505.1 > x3)) x504000) else (crossbartop_TopPrepaid.j1 k x1 x2 x3 bt505.1 true x504000)))
noncomputable def crossbartop_TopPrepaid.j1 : Nat → Int → Int → Int → Int → Bool → List (S70) → Option (Bool)
 | 0, _, _, _, _, _, _ => none
 | k + 1, x1, x2, x3, x9, x78, x504000 => if x78 = true then (some false) else ((prepaid_Reserve.f (⟨#[49]⟩ : ByteArray) x1 ([] : List (S54)) x504000 1 x2).bind fun bt507 => ((tariff_Afford.f x504000 x2 x1 1).bind fun bt515 => (if bt507.2.2.2.2 = 0 then ((meter_Start.f ([] : List (S38)) 1 1 0 (⟨#[49]⟩ : ByteArray) x2).bind fun bt517 => (if bt517.2 = 0 then (crossbartop_TopPrepaid.l0 k x1 x2 x3 x9 bt507.2.2.2.1 bt517.1 (([] : List (S98))) x2 x504000 bt507.1 bt507.2.1 bt507.2.2.1) else (some false))) else (if bt507.2.2.2.2 = 280 then (if bt515.2 = 0 then (some (bt515.1 == 0)) else (some false)) else (some false)))))
noncomputable def crossbartop_TopPrepaid.j3 : Nat → Int → Int → Int → List (S38) → List (S98) → Int → List (S70) → ByteArray → Int → List (S54) → Option (Bool)
 | 0, _, _, _, _, _, _, _, _, _, _ => none
 | k + 1, x1, x2, x9, x16, x18, x19, x504000, x515000, x515001, x515002 => (meter_Stop.f x16 x504000 1 x19).bind fun bt552 => (if x18.length + bt552.2.1.length < 1954687338268 then ((meter_Total.f k (x18 ++ bt552.2.1) 1 1).bind fun bt562 => ((tariff_Price.f k x504000 x2 x19).bind fun bt564 => ((prepaid_Settle.f x515000 x515001 x515002 1 bt562.1).bind fun bt566 => (if bt552.2.2 = 0 then (if bt564.2 = 0 then (if bt566.2.2.2 = 0 then (if (bt552.1.length : Int) > 0 then (some false) else (if bt562.2 = (wrap64 (x19 - x2)) then (if bt562.1 = bt564.1 then (if (wrap64 (x19 - x2)) = x9 then (if (bt566.2.2.1.length : Int) = 0 then (some (bt566.2.1 == (wrap64 (x1 - bt564.1)))) else (some false)) else (some false)) else (some false)) else (some false))) else (some false)) else (some false)) else (some false))))) else (none))
noncomputable def crossbartop_TopPrepaid.l0 : Nat → Int → Int → Int → Int → Int → List (S38) → List (S98) → Int → List (S70) → ByteArray → Int → List (S54) → Option (Bool)
 | 0, _, _, _, _, _, _, _, _, _, _, _, _ => none
 | k + 1, x1, x2, x3, x9, x12, x16, x18, x19, x504000, x515000, x515001, x515002 => if x19 < (wrap64 (x2 + x3)) then (if x19 ≥ x12 then ((prepaid_Reserve.f x515000 x515001 x515002 x504000 1 x19).bind fun bt524 => (if bt524.2.2.2.2 = 0 then ((meter_Advance.f x16 x504000 (wrap64 (x19 + 1))).bind fun bt532 => (if bt532.2.2 = 0 then (if x18.length + bt532.2.1.length < 1954687338268 then (crossbartop_TopPrepaid.l0 k x1 x2 x3 x9 bt524.2.2.2.1 bt532.1 (x18 ++ bt532.2.1) (wrap64 (x19 + 1)) x504000 bt524.1 bt524.2.1 bt524.2.2.1) else (none)) else (some false))) else (crossbartop_TopPrepaid.j3 k x1 x2 x9 x16 x18 x19 x504000 x515000 x515001 x515002))) else ((meter_Advance.f x16 x504000 (wrap64 (x19 + 1))).bind fun bt542 => (if bt542.2.2 = 0 then (if x18.length + bt542.2.1.length < 1954687338268 then (crossbartop_TopPrepaid.l0 k x1 x2 x3 x9 x12 bt542.1 (x18 ++ bt542.2.1) (wrap64 (x19 + 1)) x504000 x515000 x515001 x515002) else (none)) else (some false)))) else (crossbartop_TopPrepaid.j3 k x1 x2 x9 x16 x18 x19 x504000 x515000 x515001 x515002)
end
noncomputable def crossbartop_TopPrepaid.f (k : Nat) (l0_0 : List (S70)) (a1 : Int) (a2 : Int) (a3 : Int) : Option (Bool) := if (l0_0.length : Int) > 30 then (crossbartop_TopPrepaid.j0 k a1 a2 a3 true l0_0) else ((tariff_Check.f k l0_0).bind fun t504 => (if t504 = 0 then (if a1 < 0 then (crossbartop_TopPrepaid.j0 k a1 a2 a3 true l0_0) else (if a1 > 1000000 then (crossbartop_TopPrepaid.j0 k a1 a2 a3 true l0_0) else (if a2 < 0 then (crossbartop_TopPrepaid.j0 k a1 a2 a3 true l0_0) else (if a2 > 1000000 then (crossbartop_TopPrepaid.j0 k a1 a2 a3 true l0_0) else (if a3 < 0 then (crossbartop_TopPrepaid.j0 k a1 a2 a3 true l0_0) else (crossbartop_TopPrepaid.j0 k a1 a2 a3 (decide (a3 > 400)) l0_0)))))) else (crossbartop_TopPrepaid.j0 k a1 a2 a3 true l0_0)))
set_option maxHeartbeats 8000000 in
set_option maxRecDepth 100000 in
theorem crossbartop_TopPrepaid.calls (k : Nat) (A0_0 : Option Addr) (c0_0 : Nat) (l0_0 : List (S70)) (a1 : Int) (a2 : Int) (a3 : Int) (r : Bool) (w : World) (hr0_0 : Kd.C k70 w A0_0 l0_0.length l0_0) (hc0_0 : l0_0.length ≤ c0_0) (h : crossbartop_TopPrepaid.f k l0_0 a1 a2 a3 = some r) (hT : r = true := by rfl) :
  Calls Tryd.prog 3 #[.agg #[.slice A0_0 l0_0.length c0_0], .int .i64 a1, .int .i64 a2, .int .i64 a3] w fun e w' => e = .returned (.bool r) ∧ Below w.heap.size w w' := by
 have HT_TRUE := Aside0.mk hT
 clear hT
 have hu24 := Tryd.underlying24
 have hu31 := Tryd.underlying31
 have hu38 := Tryd.underlying38
 have HR0_0 := Aside0.mk hr0_0
 have HC0_0 := Aside0.mk hc0_0
 clear hr0_0 hc0_0
 have HB := Aside0.mk (Below.refl w.heap.size w)
 have H : (if (l0_0.length : Int) > 30 then (crossbartop_TopPrepaid.j0 k a1 a2 a3 true l0_0) else ((tariff_Check.f k l0_0).bind fun t504 => (if t504 = 0 then (if a1 < 0 then (crossbartop_TopPrepaid.j0 k a1 a2 a3 true l0_0) else (if a1 > 1000000 then (crossbartop_TopPrepaid.j0 k a1 a2 a3 true l0_0) else (if a2 < 0 then (crossbartop_TopPrepaid.j0 k a1 a2 a3 true l0_0) else (if a2 > 1000000 then (crossbartop_TopPrepaid.j0 k a1 a2 a3 true l0_0) else (if a3 < 0 then (crossbartop_TopPrepaid.j0 k a1 a2 a3 true l0_0) else (crossbartop_TopPrepaid.j0 k a1 a2 a3 (decide (a3 > 400)) l0_0)))))) else (crossbartop_TopPrepaid.j0 k a1 a2 a3 true l0_0)))) = some r := h
 clear h
 have HC5 := Aside0.mk H
 clear H
 go_enter Tryd.func3, Tryd.ntmps3
 go_upto_region 1 with (first | ((with_reducible refine gate_dst (N := 4) rfl ?_); (try (refine gate_guard (by rfl) ?_; dsimp only)); refine box_event ?hg (N := 4) ?hd (cs := #[.slice A0_0 l0_0.length c0_0]) (t := 24) ?hr ?_; (case hd => rfl); (case hg => rfl); (case hr => first | (go_simp; done) | (go_simp; rfl)); intro gb503 hg w6 hbox hb; have n0_ := ls0 HB hb; have n1_ := Aside0.mk (hbox); have n2_ := Aside0.mk ((by rw [hg]; exact (below_size (lb0 HB)) : w.heap.size ≤ gb503)); have n3_ := Aside0.mk ((by rw [hg]; exact (below_size (lb0 HB)) : w.heap.size ≤ gb503)); clear HB; have HB := n0_; have BK503 := n1_; have GW503 := n2_; have GE503 := n3_; clear n0_ n1_ n2_ n3_; clear hb hbox hg))
 (try simp only [Act.put, List.setIfInBounds_toArray, List.set_cons_zero, List.set_cons_succ])
 go_cut [63] (fun v63 wc => ∃ (kq : Nat) (x63_4 : Bool), v63 = .bool x63_4 ∧ Aside0 (crossbartop_TopPrepaid.j0 kq a1 a2 a3 x63_4 l0_0 = some r) ∧ Aside0 (kq ≤ k) ∧ Aside0 (wc.heap[gb503]? = some (.cells #[(.slice A0_0 l0_0.length c0_0)] 24 (0, 0))) ∧ Aside0 (Below w.heap.size w wc))
 case first =>
  have H := HC5.out
  clear HC5
  by_cases c7 : (l0_0.length : Int) > 30
  ·rw [if_pos c7] at H
   have c7b0 : decide (30 < (l0_0.length : Int)) = true := decide_eq_true c7
   have c7b1 : decide (30 < l0_0.length) = true := decide_eq_true (by omega)
   clear c7
   (first | rw [c7b0] | (simp only [i64_w, i32_w]; rw [c7b0]) | skip)
   have H' := Aside0.mk H
   clear H
   have hcz8_0 := bc BK503 0
   have hfz8_0 := blk_frozen BK503.out 0
   go_wp2
   go_meet
   case rel => exact ⟨_, (true), (by first | rfl | (simp; done) | (simp [*]; done)), H', ⟨by first | omega | exact Nat.le_refl _⟩, ⟨kb BK503⟩, ⟨lb1 HB GE503⟩⟩
  ·rw [if_neg c7] at H
   have c7b0 : decide (30 < (l0_0.length : Int)) = false := decide_eq_false c7
   have c7b1 : decide (30 < l0_0.length) = false := decide_eq_false (by omega)
   clear c7
   (first | rw [c7b0] | (simp only [i64_w, i32_w]; rw [c7b0]) | skip)
   replace H := Option.bind_eq_some_iff.mp H
   obtain ⟨t504, A90, H⟩ := H
   replace H : (if t504 = 0 then (if a1 < 0 then (crossbartop_TopPrepaid.j0 k a1 a2 a3 true l0_0) else (if a1 > 1000000 then (crossbartop_TopPrepaid.j0 k a1 a2 a3 true l0_0) else (if a2 < 0 then (crossbartop_TopPrepaid.j0 k a1 a2 a3 true l0_0) else (if a2 > 1000000 then (crossbartop_TopPrepaid.j0 k a1 a2 a3 true l0_0) else (if a3 < 0 then (crossbartop_TopPrepaid.j0 k a1 a2 a3 true l0_0) else (crossbartop_TopPrepaid.j0 k a1 a2 a3 (decide (a3 > 400)) l0_0)))))) else (crossbartop_TopPrepaid.j0 k a1 a2 a3 true l0_0)) = some r := H
   have A9 := Aside0.mk A90
   clear A90
   by_cases c10 : t504 = 0
   ·rw [if_pos c10] at H
    have c10b0 : (t504 == 0) = true := beq_iff_eq.mpr c10
    have c10b1 : (t504 != 0) = false := bne_eq_false_iff_eq.mpr c10
    clear c10
    by_cases c11 : a1 < 0
    ·rw [if_pos c11] at H
     have c11b0 : decide (a1 < 0) = true := decide_eq_true c11
     clear c11
     have H' := Aside0.mk H
     clear H
     have hcz12_0 := bc BK503 0
     have hfz12_0 := blk_frozen BK503.out 0
     go_wp2_with (first | (go_at_call 12; (with_reducible refine (tariff_Check.calls k _ _ l0_0 t504 _ ?side1 ?side2 A9.out).mono ?_); (case side1 => repeat (first | exact (Kd.C_below HR0_0.out HB.out) | (with_reducible refine Kd.C_alloc ?_ _) | (with_reducible refine Kd.C_drewN ?_ _) | (with_reducible refine Kd.C_drew ?_))); (case side2 => exact HC0_0.out); rintro e w13 ⟨rfl, hb⟩; have n0_ := kl BK503 hb; have n1_ := ls1 HB GE503 hb; clear BK503; clear HB; have BK503 := n0_; have HB := n1_; clear n0_ n1_; (try clear hb); (try clear hb2); (try clear hk); (try clear hi)))
     go_meet
     case rel => exact ⟨_, (true), (by first | rfl | (simp; done) | (simp [*]; done)), H', ⟨by first | omega | exact Nat.le_refl _⟩, ⟨kb BK503⟩, ⟨lb1 HB GE503⟩⟩
    ·rw [if_neg c11] at H
     have c11b0 : decide (a1 < 0) = false := decide_eq_false c11
     clear c11
     by_cases c14 : a1 > 1000000
     ·rw [if_pos c14] at H
      have c14b0 : decide (1000000 < a1) = true := decide_eq_true c14
      clear c14
      have H' := Aside0.mk H
      clear H
      have hcz15_0 := bc BK503 0
      have hfz15_0 := blk_frozen BK503.out 0
      go_wp2_with (first | (go_at_call 12; (with_reducible refine (tariff_Check.calls k _ _ l0_0 t504 _ ?side1 ?side2 A9.out).mono ?_); (case side1 => repeat (first | exact (Kd.C_below HR0_0.out HB.out) | (with_reducible refine Kd.C_alloc ?_ _) | (with_reducible refine Kd.C_drewN ?_ _) | (with_reducible refine Kd.C_drew ?_))); (case side2 => exact HC0_0.out); rintro e w16 ⟨rfl, hb⟩; have n0_ := kl BK503 hb; have n1_ := ls1 HB GE503 hb; clear BK503; clear HB; have BK503 := n0_; have HB := n1_; clear n0_ n1_; (try clear hb); (try clear hb2); (try clear hk); (try clear hi)))
      go_meet
      case rel => exact ⟨_, (true), (by first | rfl | (simp; done) | (simp [*]; done)), H', ⟨by first | omega | exact Nat.le_refl _⟩, ⟨kb BK503⟩, ⟨lb1 HB GE503⟩⟩
     ·rw [if_neg c14] at H
      have c14b0 : decide (1000000 < a1) = false := decide_eq_false c14
      clear c14
      by_cases c17 : a2 < 0
      ·rw [if_pos c17] at H
       have c17b0 : decide (a2 < 0) = true := decide_eq_true c17
       clear c17
       have H' := Aside0.mk H
       clear H
       have hcz18_0 := bc BK503 0
       have hfz18_0 := blk_frozen BK503.out 0
       go_wp2_with (first | (go_at_call 12; (with_reducible refine (tariff_Check.calls k _ _ l0_0 t504 _ ?side1 ?side2 A9.out).mono ?_); (case side1 => repeat (first | exact (Kd.C_below HR0_0.out HB.out) | (with_reducible refine Kd.C_alloc ?_ _) | (with_reducible refine Kd.C_drewN ?_ _) | (with_reducible refine Kd.C_drew ?_))); (case side2 => exact HC0_0.out); rintro e w19 ⟨rfl, hb⟩; have n0_ := kl BK503 hb; have n1_ := ls1 HB GE503 hb; clear BK503; clear HB; have BK503 := n0_; have HB := n1_; clear n0_ n1_; (try clear hb); (try clear hb2); (try clear hk); (try clear hi)))
       go_meet
       case rel => exact ⟨_, (true), (by first | rfl | (simp; done) | (simp [*]; done)), H', ⟨by first | omega | exact Nat.le_refl _⟩, ⟨kb BK503⟩, ⟨lb1 HB GE503⟩⟩
      ·rw [if_neg c17] at H
       have c17b0 : decide (a2 < 0) = false := decide_eq_false c17
       clear c17
       by_cases c20 : a2 > 1000000
       ·rw [if_pos c20] at H
        have c20b0 : decide (1000000 < a2) = true := decide_eq_true c20
        clear c20
        have H' := Aside0.mk H
        clear H
        have hcz21_0 := bc BK503 0
        have hfz21_0 := blk_frozen BK503.out 0
        go_wp2_with (first | (go_at_call 12; (with_reducible refine (tariff_Check.calls k _ _ l0_0 t504 _ ?side1 ?side2 A9.out).mono ?_); (case side1 => repeat (first | exact (Kd.C_below HR0_0.out HB.out) | (with_reducible refine Kd.C_alloc ?_ _) | (with_reducible refine Kd.C_drewN ?_ _) | (with_reducible refine Kd.C_drew ?_))); (case side2 => exact HC0_0.out); rintro e w22 ⟨rfl, hb⟩; have n0_ := kl BK503 hb; have n1_ := ls1 HB GE503 hb; clear BK503; clear HB; have BK503 := n0_; have HB := n1_; clear n0_ n1_; (try clear hb); (try clear hb2); (try clear hk); (try clear hi)))
        go_meet
        case rel => exact ⟨_, (true), (by first | rfl | (simp; done) | (simp [*]; done)), H', ⟨by first | omega | exact Nat.le_refl _⟩, ⟨kb BK503⟩, ⟨lb1 HB GE503⟩⟩
       ·rw [if_neg c20] at H
        have c20b0 : decide (1000000 < a2) = false := decide_eq_false c20
        clear c20
        by_cases c23 : a3 < 0
        ·rw [if_pos c23] at H
         have c23b0 : decide (a3 < 0) = true := decide_eq_true c23
         clear c23
         have H' := Aside0.mk H
         clear H
         have hcz24_0 := bc BK503 0
         have hfz24_0 := blk_frozen BK503.out 0
         go_wp2_with (first | (go_at_call 12; (with_reducible refine (tariff_Check.calls k _ _ l0_0 t504 _ ?side1 ?side2 A9.out).mono ?_); (case side1 => repeat (first | exact (Kd.C_below HR0_0.out HB.out) | (with_reducible refine Kd.C_alloc ?_ _) | (with_reducible refine Kd.C_drewN ?_ _) | (with_reducible refine Kd.C_drew ?_))); (case side2 => exact HC0_0.out); rintro e w25 ⟨rfl, hb⟩; have n0_ := kl BK503 hb; have n1_ := ls1 HB GE503 hb; clear BK503; clear HB; have BK503 := n0_; have HB := n1_; clear n0_ n1_; (try clear hb); (try clear hb2); (try clear hk); (try clear hi)))
         go_meet
         case rel => exact ⟨_, (true), (by first | rfl | (simp; done) | (simp [*]; done)), H', ⟨by first | omega | exact Nat.le_refl _⟩, ⟨kb BK503⟩, ⟨lb1 HB GE503⟩⟩
        ·rw [if_neg c23] at H
         have c23b0 : decide (a3 < 0) = false := decide_eq_false c23
         clear c23
         have H' := Aside0.mk H
         clear H
         have hcz26_0 := bc BK503 0
         have hfz26_0 := blk_frozen BK503.out 0
         go_wp2_with (first | (go_at_call 12; (with_reducible refine (tariff_Check.calls k _ _ l0_0 t504 _ ?side1 ?side2 A9.out).mono ?_); (case side1 => repeat (first | exact (Kd.C_below HR0_0.out HB.out) | (with_reducible refine Kd.C_alloc ?_ _) | (with_reducible refine Kd.C_drewN ?_ _) | (with_reducible refine Kd.C_drew ?_))); (case side2 => exact HC0_0.out); rintro e w27 ⟨rfl, hb⟩; have n0_ := kl BK503 hb; have n1_ := ls1 HB GE503 hb; clear BK503; clear HB; have BK503 := n0_; have HB := n1_; clear n0_ n1_; (try clear hb); (try clear hb2); (try clear hk); (try clear hi)))
         go_meet
         case rel => exact ⟨_, (decide (a3 > 400)), (by first | rfl | (simp; done) | (simp [*]; done)), H', ⟨by first | omega | exact Nat.le_refl _⟩, ⟨kb BK503⟩, ⟨lb1 HB GE503⟩⟩
   ·rw [if_neg c10] at H
    have c10b0 : (t504 == 0) = false := beq_eq_false_iff_ne.mpr c10
    have c10b1 : (t504 != 0) = true := bne_iff_ne.mpr c10
    have H' := Aside0.mk H
    clear H
    have hcz28_0 := bc BK503 0
    have hfz28_0 := blk_frozen BK503.out 0
    go_wp2_with (first | (go_at_call 12; (with_reducible refine (tariff_Check.calls k _ _ l0_0 t504 _ ?side1 ?side2 A9.out).mono ?_); (case side1 => repeat (first | exact (Kd.C_below HR0_0.out HB.out) | (with_reducible refine Kd.C_alloc ?_ _) | (with_reducible refine Kd.C_drewN ?_ _) | (with_reducible refine Kd.C_drew ?_))); (case side2 => exact HC0_0.out); rintro e w29 ⟨rfl, hb⟩; have n0_ := kl BK503 hb; have n1_ := ls1 HB GE503 hb; clear BK503; clear HB; have BK503 := n0_; have HB := n1_; clear n0_ n1_; (try clear hb); (try clear hb2); (try clear hk); (try clear hi)))
    go_meet
    case rel => exact ⟨_, (true), (by first | rfl | (simp; done) | (simp [*]; done)), H', ⟨by first | omega | exact Nat.le_refl _⟩, ⟨kb BK503⟩, ⟨lb1 HB GE503⟩⟩
 case rest =>
  clear HC5
  try clear c1; try clear c2; try clear p2; try clear c3; try clear c7; try clear c7b0; try clear c7b1; try clear c10; try clear c10b0; try clear c10b1; try clear c11; try clear c11b0; try clear c14; try clear c14b0; try clear c17; try clear c17b0; try clear c20; try clear c20b0; try clear c23; try clear c23b0; try clear hcz12_0; try clear hcz15_0; try clear hcz18_0; try clear hcz21_0; try clear hcz24_0; try clear hcz26_0; try clear hcz28_0; try clear hcz8_0; try clear hfz12_0; try clear hfz15_0; try clear hfz18_0; try clear hfz21_0; try clear hfz24_0; try clear hfz26_0; try clear hfz28_0; try clear hfz8_0
  obtain ⟨kq, x63_4, rfl, HA, HJ4, BK503, HB⟩ := hcut
  cases kq with
  | zero => exact absurd HA.out (by simp [crossbartop_TopPrepaid.j0])
  | succ kj4 =>
   have H := HA.out
   clear HA
   simp only [crossbartop_TopPrepaid.j0] at H
   by_cases c30 : x63_4 = true
   ·subst c30
    have H1 : (some true) = some r := by rw [if_pos rfl] at H; exact H
    clear H
    have H := H1
    clear H1
    obtain rfl := Option.some.inj H
    go_wp2
    go_ret
    exact ⟨by first | rfl | (simp [errW_none, errW_some] <;> rfl) | (simp [*, errW_none, errW_some] <;> rfl), lb1 HB GE503⟩
   ·replace c30 := Bool.eq_false_iff.mpr c30
    subst c30
    have H1 : ((tariff_Afford.f l0_0 a2 a1 a3).bind fun bt505 => (if bt505.2 = 0 then (crossbartop_TopPrepaid.j1 kj4 a1 a2 a3 bt505.1 (decide (bt505.1 > a3)) l0_0) else (crossbartop_TopPrepaid.j1 kj4 a1 a2 a3 bt505.1 true l0_0))) = some r := by rw [if_neg (show ¬ (false = true) by decide)] at H; exact H
    clear H
    have H := H1
    clear H1
    replace H := Option.bind_eq_some_iff.mp H
    obtain ⟨⟨t505, t506⟩, A310, H⟩ := H
    replace H : (if t506 = 0 then (crossbartop_TopPrepaid.j1 kj4 a1 a2 a3 t505 (decide (t505 > a3)) l0_0) else (crossbartop_TopPrepaid.j1 kj4 a1 a2 a3 t505 true l0_0)) = some r := H
    have A31 := Aside0.mk A310
    clear A310
    have HC32 := Aside0.mk H
    clear H
    have hcz33_0 := bc BK503 0
    have hfz33_0 := blk_frozen BK503.out 0
    go_upto_region 4 with (first | ((with_reducible refine gate_callee (f := 13) rfl ?_); refine goesL_ (some 69) rfl rfl Tryd.func13 (by kernel_rfl) rfl #[.agg #[.slice A0_0 l0_0.length c0_0], .int .i64 a2, .int .i64 a1, .int .i64 a3] rfl (by (try simp only [List.map_toArray, List.map_cons, List.map_nil]); first | done | rfl | (simp only [List.length_drop, List.length_take]; rfl)) ?_; (with_reducible refine (tariff_Afford.calls _ _ l0_0 a2 a1 a3 t505 t506 _ ?side1 ?side2 A31.out).mono ?_); (case side1 => repeat (first | exact (Kd.C_below HR0_0.out HB.out) | (with_reducible refine Kd.C_alloc ?_ _) | (with_reducible refine Kd.C_drewN ?_ _) | (with_reducible refine Kd.C_drew ?_))); (case side2 => exact HC0_0.out); rintro e w34 ⟨rfl, hb⟩; refine ⟨_, rfl, ?_⟩; have n0_ := kl BK503 hb; have n1_ := ls1 HB GE503 hb; clear BK503; clear HB; have BK503 := n0_; have HB := n1_; clear n0_ n1_; (try clear hb); (try clear hb2); (try clear hk); (try clear hi)))
    (try simp only [Act.put, List.setIfInBounds_toArray, List.set_cons_zero, List.set_cons_succ])
    go_cut [78] (fun v78 wc => ∃ (kq : Nat) (x78_31 : Bool), v78 = .bool x78_31 ∧ Aside0 (crossbartop_TopPrepaid.j1 kq a1 a2 a3 t505 x78_31 l0_0 = some r) ∧ Aside0 (kq ≤ kj4) ∧ Aside0 (wc.heap[gb503]? = some (.cells #[(.slice A0_0 l0_0.length c0_0)] 24 (0, 0))) ∧ Aside0 (Below w.heap.size w wc))
    case first =>
     have H := HC32.out
     clear HC32
     by_cases c35 : t506 = 0
     ·rw [if_pos c35] at H
      have c35b0 : (t506 == 0) = true := beq_iff_eq.mpr c35
      have c35b1 : (t506 != 0) = false := bne_eq_false_iff_eq.mpr c35
      clear c35
      (first | rw [c35b0] | (simp only [i64_w, i32_w]; rw [c35b0]) | skip)
      have H' := Aside0.mk H
      clear H
      go_wp2
      go_meet
      case rel => exact ⟨_, (decide (t505 > a3)), (by first | rfl | (simp; done) | (simp [*]; done)), H', ⟨by have := HJ4.out; first | omega | exact Nat.le_refl _⟩, ⟨kb BK503⟩, ⟨lb1 HB GE503⟩⟩
     ·rw [if_neg c35] at H
      have c35b0 : (t506 == 0) = false := beq_eq_false_iff_ne.mpr c35
      have c35b1 : (t506 != 0) = true := bne_iff_ne.mpr c35
      (first | rw [c35b0] | (simp only [i64_w, i32_w]; rw [c35b0]) | skip)
      have H' := Aside0.mk H
      clear H
      go_wp2
      go_meet
      case rel => exact ⟨_, (true), (by first | rfl | (simp; done) | (simp [*]; done)), H', ⟨by have := HJ4.out; first | omega | exact Nat.le_refl _⟩, ⟨kb BK503⟩, ⟨lb1 HB GE503⟩⟩
    case rest =>
     clear HC32
     try clear c1; try clear c2; try clear p2; try clear c3; try clear c7; try clear c7b0; try clear c7b1; try clear c10; try clear c10b0; try clear c10b1; try clear c11; try clear c11b0; try clear c13; try clear c14; try clear c14b0; try clear c17; try clear c17b0; try clear c20; try clear c20b0; try clear c23; try clear c23b0; try clear c30; try clear c35; try clear c35b0; try clear c35b1; try clear hcz12_0; try clear hcz15_0; try clear hcz18_0; try clear hcz21_0; try clear hcz24_0; try clear hcz26_0; try clear hcz28_0; try clear hcz33_0; try clear hcz8_0; try clear hfz12_0; try clear hfz15_0; try clear hfz18_0; try clear hfz21_0; try clear hfz24_0; try clear hfz26_0; try clear hfz28_0; try clear hfz33_0; try clear hfz8_0; try clear p2
     obtain ⟨kq, x78_31, rfl, HA, HJ31, BK503, HB⟩ := hcut
     cases kq with
     | zero => exact absurd HA.out (by simp [crossbartop_TopPrepaid.j1])
     | succ kj31 =>
      have H := HA.out
      clear HA
      simp only [crossbartop_TopPrepaid.j1] at H
      by_cases c36 : x78_31 = true
      ·subst c36
       have H1 : (some false) = some r := by rw [if_pos rfl] at H; exact H
       clear H
       have H := H1
       clear H1
       exact absurd ((Option.some.inj H).trans HT_TRUE.out) (by simp)
      ·replace c36 := Bool.eq_false_iff.mpr c36
       subst c36
       have H1 : ((prepaid_Reserve.f (⟨#[49]⟩ : ByteArray) a1 ([] : List (S54)) l0_0 1 a2).bind fun bt507 => ((tariff_Afford.f l0_0 a2 a1 1).bind fun bt515 => (if bt507.2.2.2.2 = 0 then ((meter_Start.f ([] : List (S38)) 1 1 0 (⟨#[49]⟩ : ByteArray) a2).bind fun bt517 => (if bt517.2 = 0 then (crossbartop_TopPrepaid.l0 kj31 a1 a2 a3 t505 bt507.2.2.2.1 bt517.1 (([] : List (S98))) a2 l0_0 bt507.1 bt507.2.1 bt507.2.2.1) else (some false))) else (if bt507.2.2.2.2 = 280 then (if bt515.2 = 0 then (some (bt515.1 == 0)) else (some false)) else (some false))))) = some r := by rw [if_neg (show ¬ (false = true) by decide)] at H; exact H
       clear H
       have H := H1
       clear H1
       replace H := Option.bind_eq_some_iff.mp H
       obtain ⟨⟨t507, t508, t509, t512, t513⟩, A370, H⟩ := H
       replace H : ((tariff_Afford.f l0_0 a2 a1 1).bind fun bt515 => (if t513 = 0 then ((meter_Start.f ([] : List (S38)) 1 1 0 (⟨#[49]⟩ : ByteArray) a2).bind fun bt517 => (if bt517.2 = 0 then (crossbartop_TopPrepaid.l0 kj31 a1 a2 a3 t505 t512 bt517.1 (([] : List (S98))) a2 l0_0 t507 t508 t509) else (some false))) else (if t513 = 280 then (if bt515.2 = 0 then (some (bt515.1 == 0)) else (some false)) else (some false)))) = some r := H
       have A37 := Aside0.mk A370
       clear A370
       replace H := Option.bind_eq_some_iff.mp H
       obtain ⟨⟨t515, t516⟩, A380, H⟩ := H
       replace H : (if t513 = 0 then ((meter_Start.f ([] : List (S38)) 1 1 0 (⟨#[49]⟩ : ByteArray) a2).bind fun bt517 => (if bt517.2 = 0 then (crossbartop_TopPrepaid.l0 kj31 a1 a2 a3 t505 t512 bt517.1 (([] : List (S98))) a2 l0_0 t507 t508 t509) else (some false))) else (if t513 = 280 then (if t516 = 0 then (some (t515 == 0)) else (some false)) else (some false))) = some r := H
       have A38 := Aside0.mk A380
       clear A380
       by_cases c39 : t513 = 0
       ·rw [if_pos c39] at H
        have c39b0 : (t513 == 0) = true := beq_iff_eq.mpr c39
        have c39b1 : (t513 != 0) = false := bne_eq_false_iff_eq.mpr c39
        clear c39
        replace H := Option.bind_eq_some_iff.mp H
        obtain ⟨⟨t517, t520⟩, A400, H⟩ := H
        replace H : (if t520 = 0 then (crossbartop_TopPrepaid.l0 kj31 a1 a2 a3 t505 t512 t517 (([] : List (S98))) a2 l0_0 t507 t508 t509) else (some false)) = some r := H
        have A40 := Aside0.mk A400
        clear A400
        by_cases c41 : t520 = 0
        ·rw [if_pos c41] at H
         have c41b0 : (t520 == 0) = true := beq_iff_eq.mpr c41
         have c41b1 : (t520 != 0) = false := bne_eq_false_iff_eq.mpr c41
         clear c41
         obtain ⟨y521, hy521⟩ : ∃ y_ : List (S98), y_ = (([] : List (S98))) := ⟨_, rfl⟩
         replace H : (crossbartop_TopPrepaid.l0 kj31 a1 a2 a3 t505 t512 t517 y521 a2 l0_0 t507 t508 t509) = some r := by first | (rw [hy521]; with_reducible exact H) | (have H2_ := (Option.bind_some _ _).symm.trans H; rw [hy521]; with_reducible exact H2_) | (have H2_ := (Option.bind_some _ _).symm.trans H; with_reducible exact H2_) | with_reducible exact H | (rw [hy521]; exact H) | exact H
         have Ny521 := Aside0.mk hy521
         clear hy521
         have HC42 := Aside0.mk H
         clear H
         have hcz43_0 := bc BK503 0
         have hfz43_0 := blk_frozen BK503.out 0
         go_upto_block 0 with (first | ((with_reducible refine gate_callee (f := 14) rfl ?_); refine goesL_ (some 84) rfl rfl Tryd.func14 (by kernel_rfl) rfl #[.agg #[.string (⟨#[49]⟩ : ByteArray), .int .i64 a1, .slice none 0 0], .agg #[.slice A0_0 l0_0.length c0_0], .int .i64 1, .int .i64 a2] rfl (by (try simp only [List.map_toArray, List.map_cons, List.map_nil]); first | done | rfl | (simp only [List.length_drop, List.length_take]; rfl)) ?_; (refine (prepaid_Reserve.calls (⟨#[49]⟩ : ByteArray) a1 _ _ ([] : List (S54)) _ _ l0_0 1 a2 t507 t508 t509 t512 t513 _ ?side1 ?side2 ?side3 ?side4 A37.out).mono ?_); (case side1 => exact Kd.C_nil _ _); (case side2 => exact Nat.le_refl _); (case side3 => repeat (first | exact (Kd.C_below HR0_0.out HB.out) | (with_reducible refine Kd.C_alloc ?_ _) | (with_reducible refine Kd.C_drewN ?_ _) | (with_reducible refine Kd.C_drew ?_))); (case side4 => exact HC0_0.out); rintro e w44 ⟨v510, rfl, ho0, hb⟩; refine ⟨_, rfl, ?_⟩; have n0_ := Aside0.mk (Kd.R_lower ho0 (below_size (lb1 HB GE503))); have n1_ := kl BK503 hb; have n2_ := ls1 HB GE503 hb; clear BK503; clear HB; have HO511 := n0_; have BK503 := n1_; have HB := n2_; clear n0_ n1_ n2_; (try clear hb); (try clear hb2); (try clear hk); (try clear hi); (try clear ho0)) | ((with_reducible refine gate_dst (N := 11) rfl ?_); (try (refine gate_guard (by rfl) ?_; dsimp only)); refine box_event ?hg (N := 11) ?hd (cs := #[.string (⟨#[]⟩ : ByteArray), .int .i64 0, .slice none 0 0]) (t := 31) ?hr ?_; (case hd => rfl); (case hg => rfl); (case hr => first | (go_simp; done) | (go_simp; rfl)); intro gb514 hg w45 hbox hb; have n0_ := Aside0.mk (Kd.R_below (rk HO511) hb); have n1_ := kl BK503 hb; have n2_ := ls1 HB GE503 hb; have n3_ := Aside0.mk (hbox); have n4_ := Aside0.mk ((by rw [hg]; exact (below_size (lb1 HB GE503)) : w.heap.size ≤ gb514)); have n5_ := Aside0.mk ((by rw [hg]; exact (below_size (lb1 HB GE503)) : w.heap.size ≤ gb514)); have n6_ := kn BK503 hg; have n7_ := km BK503 hg; clear HO511; clear BK503; clear HB; have HO511 := n0_; have BK503 := n1_; have HB := n2_; have BK514 := n3_; have GW514 := n4_; have GE514 := n5_; have NB503_514 := n6_; have NB514_503 := n7_; clear n0_ n1_ n2_ n3_ n4_ n5_ n6_ n7_; clear hb hbox hg; have hnb46 := NB514_503.out; have hnc46 := NB503_514.out; have hcz47_0 := bc BK514 0; have hcz47_1 := bc BK514 1; have hcz47_2 := bc BK514 2; have hfz47_0 := blk_frozen BK514.out 0; have hfz47_1 := blk_frozen BK514.out 1; have hfz47_2 := blk_frozen BK514.out 2; obtain ⟨Ao48, co48, eo48⟩ := Kd.R_slice HO511.out; subst eo48; have hcz49_0 := bc BK503 0; have hfz49_0 := blk_frozen BK503.out 0) | ((with_reducible refine gate_callee (f := 13) rfl ?_); refine goesL_ (some 92) rfl rfl Tryd.func13 (by kernel_rfl) rfl #[.agg #[.slice A0_0 l0_0.length c0_0], .int .i64 a2, .int .i64 a1, .int .i64 1] rfl (by (try simp only [List.map_toArray, List.map_cons, List.map_nil]); first | done | rfl | (simp only [List.length_drop, List.length_take]; rfl)) ?_; (with_reducible refine (tariff_Afford.calls _ _ l0_0 a2 a1 1 t515 t516 _ ?side1 ?side2 A38.out).mono ?_); (case side1 => exact Kd.C_below HR0_0.out (lb2 HB GE503 GE514)); (case side2 => exact HC0_0.out); rintro e w50 ⟨rfl, hb⟩; refine ⟨_, rfl, ?_⟩; have n0_ := Aside0.mk (Kd.R_below (by (with_reducible repeat (first | apply Kd.R_alloc | apply Kd.R_drewN | apply Kd.R_drew)); exact (Kd.R_mono (Kd.R_far (p := ⟨gb514, 2, none⟩) (Kd.R_far (p := ⟨gb514, 1, none⟩) (Kd.R_far (p := ⟨gb514, 0, none⟩) (Kd.R_types HO511.out BK514.out (by decide)) (fun _ hk => hk.2) (.string t507)) (fun _ hk => hk.2) (.int .i64 t508)) (fun _ hk => hk.2) (.slice Ao48 t509.length co48)) (fun _ h_ => h_.1))) hb); have n1_ := kl1 BK503 NB503_514 hb; have n2_ := Aside0.mk (blk_below (g := gb514) (o := .cells #[.string t507, .int .i64 t508, .slice Ao48 t509.length co48] 31 (0, 0)) (by (with_reducible repeat (first | refine blk_drewN ?_ _ | refine blk_drew ?_ | refine blk_alloc ?_ _)); refine blk_put (cs := #[.string t507, .int .i64 t508, .slice none 0 0]) ?_ 2 _ rfl; (with_reducible repeat (first | refine blk_drewN ?_ _ | refine blk_drew ?_ | refine blk_alloc ?_ _)); refine blk_put (cs := #[.string t507, .int .i64 0, .slice none 0 0]) ?_ 1 _ rfl; (with_reducible repeat (first | refine blk_drewN ?_ _ | refine blk_drew ?_ | refine blk_alloc ?_ _)); refine blk_put (cs := #[.string (⟨#[]⟩ : ByteArray), .int .i64 0, .slice none 0 0]) ?_ 0 _ rfl; (with_reducible repeat (first | refine blk_drewN ?_ _ | refine blk_drew ?_ | refine blk_alloc ?_ _)); exact BK514.out) hb); have n3_ := ls2 HB GE503 GE514 hb; clear HO511; clear BK503; clear BK514; clear HB; have HO511 := n0_; have BK503 := n1_; have BK514 := n2_; have HB := n3_; clear n0_ n1_ n2_ n3_; (try clear hb); (try clear hb2); (try clear hk); (try clear hi)) | ((with_reducible refine gate_callee (f := 15) rfl ?_); refine goesL_ (some 110) rfl rfl Tryd.func15 (by kernel_rfl) rfl #[.slice none 0 0, .agg #[.int .i64 1, .int .i64 1, .int .i64 0, .string (⟨#[49]⟩ : ByteArray), .int .i64 a2]] rfl (by (try simp only [List.map_toArray, List.map_cons, List.map_nil]); first | done | rfl | (simp only [List.length_drop, List.length_take]; rfl)) ?_; (refine (meter_Start.calls _ _ ([] : List (S38)) 1 1 0 (⟨#[49]⟩ : ByteArray) a2 t517 t520 _ ?side1 ?side2 A40.out).mono ?_); (case side1 => exact Kd.C_nil _ _); (case side2 => exact Nat.le_refl _); rintro e w51 ⟨v518, rfl, ho0, hb⟩; refine ⟨_, rfl, ?_⟩; have n0_ := Aside0.mk (Kd.R_below (rk HO511) hb); have n1_ := Aside0.mk (Kd.R_lower ho0 (below_size (lb2 HB GE503 GE514))); have n2_ := kl BK503 hb; have n3_ := kl BK514 hb; have n4_ := ls2 HB GE503 GE514 hb; clear HO511; clear BK503; clear BK514; clear HB; have HO511 := n0_; have HO519 := n1_; have BK503 := n2_; have BK514 := n3_; have HB := n4_; clear n0_ n1_ n2_ n3_ n4_; (try clear hb); (try clear hb2); (try clear hk); (try clear hi); (try clear ho0)) | ((with_reducible refine gate_dst (N := 115) rfl ?_); (try (refine gate_guard (by rfl) ?_; dsimp only)); refine Kd.R_lit k98 _ 98 ?hg (N := 115) ?hd (xs := ([] : List (S98))) (inner := []) (ok := fun _ => True) (okp := fun _ => True) ?hr ?hp (fun _ hk => hk) trivial (Below.refl _ _) (Nat.le_refl _) (by simp) ?_; (case hd => rfl); (case hg => rfl); (case hr => first | (go_simp; done) | (go_simp; rfl)); (case hp => exact (Reps.none _ _)); intro v522 w52 ho53 hb hg_ hnew_; clear hg_ hnew_; (first | rw [← Ny521.out] at ho53 | (simp only [Int.reduceToNat] at ho53; rw [← Ny521.out] at ho53)); have n0_ := Aside0.mk (Kd.R_below (rk HO511) hb); have n1_ := Aside0.mk (Kd.R_below (rk HO519) hb); have n2_ := Aside0.mk (Kd.R_lower ho53 (below_size (lb2 HB GE503 GE514))); have n3_ := kl BK503 hb; have n4_ := kl BK514 hb; have n5_ := ls2 HB GE503 GE514 hb; clear HO511; clear HO519; clear BK503; clear BK514; clear HB; have HO511 := n0_; have HO519 := n1_; have HO523 := n2_; have BK503 := n3_; have BK514 := n4_; have HB := n5_; clear n0_ n1_ n2_ n3_ n4_ n5_; clear hb ho53))
         (try simp only [Act.put, List.setIfInBounds_toArray, List.set_cons_zero, List.set_cons_succ])
         go_cut [16, 18, 19] (fun v16 v18 v19 wc => ∃ (kq : Nat) (x16_41 : List (S38)) (x18_41 : List (S98)) (x19_41 : Int) (x515000_41 : ByteArray) (x515001_41 : Int) (x515002_41 : List (S54)) (u515002 : Value), v19 = .int .i64 x19_41 ∧ Aside0 (crossbartop_TopPrepaid.j3 kq a1 a2 t505 x16_41 x18_41 x19_41 l0_0 x515000_41 x515001_41 x515002_41 = some r) ∧ Aside0 (kq ≤ kj31) ∧ Aside0 (Kd.R k38 38 wc w.heap.size (fun _ => True) v16 x16_41) ∧ Aside0 (Kd.R k98 98 wc w.heap.size (fun _ => True) v18 x18_41) ∧ Aside0 (Kd.R k54 54 wc w.heap.size (fun _ => True) u515002 x515002_41) ∧ Aside0 (wc.heap[gb503]? = some (.cells #[(.slice A0_0 l0_0.length c0_0)] 24 (0, 0))) ∧ Aside0 (wc.heap[gb514]? = some (.cells #[.string x515000_41, .int .i64 x515001_41, u515002] 31 (0, 0))) ∧ Aside0 (Below w.heap.size w wc))
         case first =>
          have H := HC42.out
          clear HC42
          have H' := Aside0.mk H
          clear H
          go_wp2
          go_loopg [12, 16, 18, 19] kj31 (fun kq v12 v16 v18 v19 w' => ∃ (x12_3 : Int) (x16_3 : List (S38)) (x18_3 : List (S98)) (x19_3 : Int) (x515000_3 : ByteArray) (x515001_3 : Int) (x515002_3 : List (S54)) (u515002 : Value), v12 = .int .i64 x12_3 ∧ v19 = .int .i64 x19_3 ∧ Aside0 (crossbartop_TopPrepaid.l0 kq a1 a2 a3 t505 x12_3 x16_3 x18_3 x19_3 l0_0 x515000_3 x515001_3 x515002_3 = some r) ∧ Aside0 (kq ≤ kj31) ∧ Aside0 (Kd.R k38 38 w' w.heap.size (fun _ => True) v16 x16_3) ∧ Aside0 (Kd.R k98 98 w' w.heap.size (fun _ => True) v18 x18_3) ∧ Aside0 (Kd.R k54 54 w' w.heap.size (fun _ => True) u515002 x515002_3) ∧ Aside0 (w'.heap[gb503]? = some (.cells #[(.slice A0_0 l0_0.length c0_0)] 24 (0, 0))) ∧ Aside0 (w'.heap[gb514]? = some (.cells #[.string x515000_3, .int .i64 x515001_3, u515002] 31 (0, 0))) ∧ Aside0 (Below w.heap.size w w'))
          case atStart => exact ⟨(t512), (t517), (y521), (a2), (t507), (t508), (t509), (.slice Ao48 t509.length co48), (by first | rfl | (simp; done) | (simp [*]; done)), (by first | rfl | (simp; done) | (simp [*]; done)), H', ⟨Nat.le_refl _⟩, ⟨rk HO519⟩, ⟨rk HO523⟩, ⟨rk HO511⟩, ⟨kb BK503⟩, ⟨kb BK514⟩, ⟨lb2 HB GE503 GE514⟩⟩
          case round =>
           clear H'
           try clear c1; try clear c2; try clear p2; try clear c3; try clear c4; try clear c7; try clear c7b0; try clear c7b1; try clear c10; try clear c10b0; try clear c10b1; try clear c11; try clear c11b0; try clear c13; try clear c14; try clear c14b0; try clear c15; try clear c17; try clear c17b0; try clear c20; try clear c20b0; try clear c23; try clear c23b0; try clear c30; try clear c35; try clear c35b0; try clear c35b1; try clear c36; try clear c39; try clear c39b0; try clear c39b1; try clear c41; try clear c41b0; try clear c41b1; try clear c46; try clear hcz12_0; try clear hcz15_0; try clear hcz18_0; try clear hcz21_0; try clear hcz24_0; try clear hcz26_0; try clear hcz28_0; try clear hcz33_0; try clear hcz43_0; try clear hcz47_0; try clear hcz47_1; try clear hcz47_2; try clear hcz49_0; try clear hcz8_0; try clear hfz12_0; try clear hfz15_0; try clear hfz18_0; try clear hfz21_0; try clear hfz24_0; try clear hfz26_0; try clear hfz28_0; try clear hfz33_0; try clear hfz43_0; try clear hfz47_0; try clear hfz47_1; try clear hfz47_2; try clear hfz49_0; try clear hfz8_0; try clear p2
           obtain ⟨x12_3, x16_3, x18_3, x19_3, x515000_3, x515001_3, x515002_3, u515002, rfl, rfl, HA, HK3, HO_16, HO_18, HO_515002, BK503, BK514, HB⟩ := hrel
           cases gk with
           | zero => exact absurd HA.out (by simp [crossbartop_TopPrepaid.l0])
           | succ k3 =>
            have H := HA.out
            clear HA
            simp only [crossbartop_TopPrepaid.l0] at H
            by_cases c54 : x19_3 < (wrap64 (a2 + a3))
            ·rw [if_pos c54] at H
             have c54b0 : decide (x19_3 < (wrap64 (a2 + a3))) = true := decide_eq_true c54
             clear c54
             (first | rw [c54b0] | (simp only [i64_w, i32_w]; rw [c54b0]) | skip)
             by_cases c55 : x19_3 ≥ x12_3
             ·rw [if_pos c55] at H
              have c55b0 : decide (x12_3 ≤ x19_3) = true := decide_eq_true c55
              clear c55
              replace H := Option.bind_eq_some_iff.mp H
              obtain ⟨⟨t524, t525, t526, t529, t530⟩, A560, H⟩ := H
              replace H : (if t530 = 0 then ((meter_Advance.f x16_3 l0_0 (wrap64 (x19_3 + 1))).bind fun bt532 => (if bt532.2.2 = 0 then (if x18_3.length + bt532.2.1.length < 1954687338268 then (crossbartop_TopPrepaid.l0 k3 a1 a2 a3 t505 t529 bt532.1 (x18_3 ++ bt532.2.1) (wrap64 (x19_3 + 1)) l0_0 t524 t525 t526) else (none)) else (some false))) else (crossbartop_TopPrepaid.j3 k3 a1 a2 t505 x16_3 x18_3 x19_3 l0_0 x515000_3 x515001_3 x515002_3)) = some r := H
              have A56 := Aside0.mk A560
              clear A560
              by_cases c57 : t530 = 0
              ·rw [if_pos c57] at H
               have c57b0 : (t530 == 0) = true := beq_iff_eq.mpr c57
               have c57b1 : (t530 != 0) = false := bne_eq_false_iff_eq.mpr c57
               clear c57
               replace H := Option.bind_eq_some_iff.mp H
               obtain ⟨⟨t532, t535, t538⟩, A580, H⟩ := H
               replace H : (if t538 = 0 then (if x18_3.length + t535.length < 1954687338268 then (crossbartop_TopPrepaid.l0 k3 a1 a2 a3 t505 t529 t532 (x18_3 ++ t535) (wrap64 (x19_3 + 1)) l0_0 t524 t525 t526) else (none)) else (some false)) = some r := H
               have A58 := Aside0.mk A580
               clear A580
               by_cases c59 : t538 = 0
               ·rw [if_pos c59] at H
                have c59b0 : (t538 == 0) = true := beq_iff_eq.mpr c59
                have c59b1 : (t538 != 0) = false := bne_eq_false_iff_eq.mpr c59
                clear c59
                by_cases c60 : x18_3.length + t535.length < 1954687338268
                ·rw [if_pos c60] at H
                 have LMc60 := Aside0.mk c60
                 clear c60
                 obtain ⟨y539, hy539⟩ : ∃ y_ : List (S98), y_ = (x18_3 ++ t535) := ⟨_, rfl⟩
                 replace H : (crossbartop_TopPrepaid.l0 k3 a1 a2 a3 t505 t529 t532 y539 (wrap64 (x19_3 + 1)) l0_0 t524 t525 t526) = some r := by first | (rw [hy539]; with_reducible exact H) | (have H2_ := (Option.bind_some _ _).symm.trans H; rw [hy539]; with_reducible exact H2_) | (have H2_ := (Option.bind_some _ _).symm.trans H; with_reducible exact H2_) | with_reducible exact H | (rw [hy539]; exact H) | exact H
                 have Ny539 := Aside0.mk hy539
                 clear hy539
                 have H' := Aside0.mk H
                 clear H
                 have hnb61 := NB514_503.out
                 have hnc61 := NB503_514.out
                 have hcz62_0 := bc BK514 0
                 have hcz62_1 := bc BK514 1
                 have hcz62_2 := bc BK514 2
                 have hfz62_0 := blk_frozen BK514.out 0
                 have hfz62_1 := blk_frozen BK514.out 1
                 have hfz62_2 := blk_frozen BK514.out 2
                 have hcz63_0 := bc BK503 0
                 have hfz63_0 := blk_frozen BK503.out 0
                 obtain ⟨Ao64, co64, eo64⟩ := Kd.R_slice HO_515002.out
                 subst eo64
                 go_wp2_with (first | ((with_reducible refine gate_callee (f := 14) rfl ?_); refine goesL_ (some 129) rfl rfl Tryd.func14 (by kernel_rfl) rfl #[.agg #[.string x515000_3, .int .i64 x515001_3, .slice Ao64 x515002_3.length co64], .agg #[.slice A0_0 l0_0.length c0_0], .int .i64 1, .int .i64 x19_3] rfl (by (try simp only [List.map_toArray, List.map_cons, List.map_nil]); first | done | rfl | (simp only [List.length_drop, List.length_take]; rfl)) ?_; (with_reducible refine (prepaid_Reserve.calls x515000_3 x515001_3 _ _ x515002_3 _ _ l0_0 1 x19_3 t524 t525 t526 t529 t530 _ ?side1 ?side2 ?side3 ?side4 A56.out).mono ?_); (case side1 => repeat (first | exact (Kd.R_reads' HO_515002.out).2.2 | (with_reducible refine Kd.C_alloc ?_ _) | (with_reducible refine Kd.C_drewN ?_ _) | (with_reducible refine Kd.C_drew ?_))); (case side2 => exact (Kd.R_reads' HO_515002.out).2.1); (case side3 => repeat (first | exact (Kd.C_below HR0_0.out HB.out) | (with_reducible refine Kd.C_alloc ?_ _) | (with_reducible refine Kd.C_drewN ?_ _) | (with_reducible refine Kd.C_drew ?_))); (case side4 => exact HC0_0.out); rintro e w65 ⟨v527, rfl, ho0, hb⟩; refine ⟨_, rfl, ?_⟩; have n0_ := Aside0.mk (Kd.R_below (rk HO_16) hb); have n1_ := Aside0.mk (Kd.R_below (rk HO_18) hb); have n2_ := Aside0.mk (Kd.R_elder' (rk HO_515002) (Kd.R_base ho0) hb); have n3_ := Aside0.mk (Kd.R_lower (Kd.R_new' ho0 (Kd.R_lt (rk HO_515002))) (below_size (lb2 HB GE503 GE514))); have n4_ := kl BK503 hb; have n5_ := kl BK514 hb; have n6_ := ls2 HB GE503 GE514 hb; clear HO_16; clear HO_18; clear HO_515002; clear BK503; clear BK514; clear HB; have HO_16 := n0_; have HO_18 := n1_; have HO_515002 := n2_; have HO528 := n3_; have BK503 := n4_; have BK514 := n5_; have HB := n6_; clear n0_ n1_ n2_ n3_ n4_ n5_ n6_; (try clear hb); (try clear hb2); (try clear hk); (try clear hi); (try clear ho0)) | ((with_reducible refine gate_dst (N := 20) rfl ?_); (try (refine gate_guard (by rfl) ?_; dsimp only)); refine box_event ?hg (N := 20) ?hd (cs := #[.string (⟨#[]⟩ : ByteArray), .int .i64 0, .slice none 0 0]) (t := 31) ?hr ?_; (case hd => rfl); (case hg => rfl); (case hr => first | (go_simp; done) | (go_simp; rfl)); intro gb531 hg w66 hbox hb; have n0_ := Aside0.mk (Kd.R_below (rk HO_16) hb); have n1_ := Aside0.mk (Kd.R_below (rk HO_18) hb); have n2_ := Aside0.mk (Kd.R_below (rk HO_515002) hb); have n3_ := Aside0.mk (Kd.R_below (rk HO528) hb); have n4_ := kl BK503 hb; have n5_ := kl BK514 hb; have n6_ := ls2 HB GE503 GE514 hb; have n7_ := Aside0.mk (hbox); have n8_ := Aside0.mk ((by rw [hg]; exact (below_size (lb2 HB GE503 GE514)) : w.heap.size ≤ gb531)); have n9_ := Aside0.mk ((by rw [hg]; exact (below_size (lb2 HB GE503 GE514)) : w.heap.size ≤ gb531)); have n10_ := kn BK503 hg; have n11_ := km BK503 hg; have n12_ := kn BK514 hg; have n13_ := km BK514 hg; clear HO_16; clear HO_18; clear HO_515002; clear HO528; clear BK503; clear BK514; clear HB; have HO_16 := n0_; have HO_18 := n1_; have HO_515002 := n2_; have HO528 := n3_; have BK503 := n4_; have BK514 := n5_; have HB := n6_; have BK531 := n7_; have GW531 := n8_; have GE531 := n9_; have NB503_531 := n10_; have NB531_503 := n11_; have NB514_531 := n12_; have NB531_514 := n13_; clear n0_ n1_ n2_ n3_ n4_ n5_ n6_ n7_ n8_ n9_ n10_ n11_ n12_ n13_; clear hb hbox hg; have hnb67 := NB531_503.out; have hnc67 := NB503_531.out; have hnb68 := NB531_514.out; have hnc68 := NB514_531.out; have hcz69_0 := bc BK531 0; have hcz69_1 := bc BK531 1; have hcz69_2 := bc BK531 2; have hfz69_0 := blk_frozen BK531.out 0; have hfz69_1 := blk_frozen BK531.out 1; have hfz69_2 := blk_frozen BK531.out 2; obtain ⟨Ao70, co70, eo70⟩ := Kd.R_slice HO528.out; subst eo70; have hcz71_0 := bc BK514 0; have hcz71_1 := bc BK514 1; have hcz71_2 := bc BK514 2; have hfz71_0 := blk_frozen BK514.out 0; have hfz71_1 := blk_frozen BK514.out 1; have hfz71_2 := blk_frozen BK514.out 2; have hcz72_0 := bc BK503 0; have hfz72_0 := blk_frozen BK503.out 0; obtain ⟨Ao73, co73, eo73⟩ := Kd.R_slice HO_16.out; subst eo73) | ((with_reducible refine gate_callee (f := 16) rfl ?_); refine goesL_ (some 143) rfl rfl Tryd.func16 (by kernel_rfl) rfl #[.slice Ao73 x16_3.length co73, .agg #[.slice A0_0 l0_0.length c0_0], .int .i64 (wrap64 (x19_3 + 1))] rfl (by (try simp only [List.map_toArray, List.map_cons, List.map_nil]); first | done | rfl | (simp only [List.length_drop, List.length_take]; rfl)) ?_; (with_reducible refine (meter_Advance.calls _ _ x16_3 _ _ l0_0 (wrap64 (x19_3 + 1)) t532 t535 t538 _ ?side1 ?side2 ?side3 ?side4 A58.out).mono ?_); (case side1 => refine (Kd.R_reads' (e := 38) (base := w.heap.size) (ok := fun k_ => True) (n := x16_3.length) (c := co73) ?_).2.2; exact (by (with_reducible repeat (first | apply Kd.R_alloc | apply Kd.R_drewN | apply Kd.R_drew)); exact (Kd.R_mono (Kd.R_mono (Kd.R_far (p := ⟨gb514, 2, none⟩) (Kd.R_far (p := ⟨gb514, 1, none⟩) (Kd.R_far (p := ⟨gb514, 0, none⟩) (Kd.R_far (p := ⟨gb531, 2, none⟩) (Kd.R_far (p := ⟨gb531, 1, none⟩) (Kd.R_far (p := ⟨gb531, 0, none⟩) (Kd.R_types (Kd.R_types HO_16.out BK531.out (by decide)) BK514.out (by decide)) (fun _ hk => hk.1.2) (.string t524)) (fun _ hk => hk.1.2) (.int .i64 t525)) (fun _ hk => hk.1.2) (.slice Ao70 t526.length co70)) (fun _ hk => hk.2) (.string t524)) (fun _ hk => hk.2) (.int .i64 t525)) (fun _ hk => hk.2) (.slice Ao70 t526.length co70)) (fun _ h_ => h_.1)) (fun _ h_ => h_.1)))); (case side2 => exact (Kd.R_reads' HO_16.out).2.1); (case side3 => exact Kd.C_below HR0_0.out (lb3 HB GE503 GE514 GE531)); (case side4 => exact HC0_0.out); rintro e w74 ⟨v533, v536, rfl, ho0, ho1, hb⟩; refine ⟨_, rfl, ?_⟩; have n0_ := Aside0.mk (Kd.R_elder' (by (with_reducible repeat (first | apply Kd.R_alloc | apply Kd.R_drewN | apply Kd.R_drew)); exact (Kd.R_mono (Kd.R_mono (Kd.R_far (p := ⟨gb514, 2, none⟩) (Kd.R_far (p := ⟨gb514, 1, none⟩) (Kd.R_far (p := ⟨gb514, 0, none⟩) (Kd.R_far (p := ⟨gb531, 2, none⟩) (Kd.R_far (p := ⟨gb531, 1, none⟩) (Kd.R_far (p := ⟨gb531, 0, none⟩) (Kd.R_types (Kd.R_types HO_16.out BK531.out (by decide)) BK514.out (by decide)) (fun _ hk => hk.1.2) (.string t524)) (fun _ hk => hk.1.2) (.int .i64 t525)) (fun _ hk => hk.1.2) (.slice Ao70 t526.length co70)) (fun _ hk => hk.2) (.string t524)) (fun _ hk => hk.2) (.int .i64 t525)) (fun _ hk => hk.2) (.slice Ao70 t526.length co70)) (fun _ h_ => h_.1)) (fun _ h_ => h_.1))) (Kd.R_base ho0) hb); have n1_ := Aside0.mk (Kd.R_elder' (by (with_reducible repeat (first | apply Kd.R_alloc | apply Kd.R_drewN | apply Kd.R_drew)); exact (Kd.R_mono (Kd.R_mono (Kd.R_far (p := ⟨gb514, 2, none⟩) (Kd.R_far (p := ⟨gb514, 1, none⟩) (Kd.R_far (p := ⟨gb514, 0, none⟩) (Kd.R_far (p := ⟨gb531, 2, none⟩) (Kd.R_far (p := ⟨gb531, 1, none⟩) (Kd.R_far (p := ⟨gb531, 0, none⟩) (Kd.R_types (Kd.R_types HO_18.out BK531.out (by decide)) BK514.out (by decide)) (fun _ hk => hk.1.2) (.string t524)) (fun _ hk => hk.1.2) (.int .i64 t525)) (fun _ hk => hk.1.2) (.slice Ao70 t526.length co70)) (fun _ hk => hk.2) (.string t524)) (fun _ hk => hk.2) (.int .i64 t525)) (fun _ hk => hk.2) (.slice Ao70 t526.length co70)) (fun _ h_ => h_.1)) (fun _ h_ => h_.1))) (Kd.R_base ho1) hb); have n2_ := Aside0.mk (Kd.R_below (by (with_reducible repeat (first | apply Kd.R_alloc | apply Kd.R_drewN | apply Kd.R_drew)); exact (Kd.R_mono (Kd.R_mono (Kd.R_far (p := ⟨gb514, 2, none⟩) (Kd.R_far (p := ⟨gb514, 1, none⟩) (Kd.R_far (p := ⟨gb514, 0, none⟩) (Kd.R_far (p := ⟨gb531, 2, none⟩) (Kd.R_far (p := ⟨gb531, 1, none⟩) (Kd.R_far (p := ⟨gb531, 0, none⟩) (Kd.R_types (Kd.R_types HO_515002.out BK531.out (by decide)) BK514.out (by decide)) (fun _ hk => hk.1.2) (.string t524)) (fun _ hk => hk.1.2) (.int .i64 t525)) (fun _ hk => hk.1.2) (.slice Ao70 t526.length co70)) (fun _ hk => hk.2) (.string t524)) (fun _ hk => hk.2) (.int .i64 t525)) (fun _ hk => hk.2) (.slice Ao70 t526.length co70)) (fun _ h_ => h_.1)) (fun _ h_ => h_.1))) hb); have n3_ := Aside0.mk (Kd.R_below (by (with_reducible repeat (first | apply Kd.R_alloc | apply Kd.R_drewN | apply Kd.R_drew)); exact (Kd.R_mono (Kd.R_mono (Kd.R_far (p := ⟨gb514, 2, none⟩) (Kd.R_far (p := ⟨gb514, 1, none⟩) (Kd.R_far (p := ⟨gb514, 0, none⟩) (Kd.R_far (p := ⟨gb531, 2, none⟩) (Kd.R_far (p := ⟨gb531, 1, none⟩) (Kd.R_far (p := ⟨gb531, 0, none⟩) (Kd.R_types (Kd.R_types HO528.out BK531.out (by decide)) BK514.out (by decide)) (fun _ hk => hk.1.2) (.string t524)) (fun _ hk => hk.1.2) (.int .i64 t525)) (fun _ hk => hk.1.2) (.slice Ao70 t526.length co70)) (fun _ hk => hk.2) (.string t524)) (fun _ hk => hk.2) (.int .i64 t525)) (fun _ hk => hk.2) (.slice Ao70 t526.length co70)) (fun _ h_ => h_.1)) (fun _ h_ => h_.1))) hb); have n4_ := Aside0.mk (Kd.R_lower (Kd.R_new' ho0 (Kd.R_lt (by (with_reducible repeat (first | apply Kd.R_alloc | apply Kd.R_drewN | apply Kd.R_drew)); exact (Kd.R_mono (Kd.R_mono (Kd.R_far (p := ⟨gb514, 2, none⟩) (Kd.R_far (p := ⟨gb514, 1, none⟩) (Kd.R_far (p := ⟨gb514, 0, none⟩) (Kd.R_far (p := ⟨gb531, 2, none⟩) (Kd.R_far (p := ⟨gb531, 1, none⟩) (Kd.R_far (p := ⟨gb531, 0, none⟩) (Kd.R_types (Kd.R_types HO_16.out BK531.out (by decide)) BK514.out (by decide)) (fun _ hk => hk.1.2) (.string t524)) (fun _ hk => hk.1.2) (.int .i64 t525)) (fun _ hk => hk.1.2) (.slice Ao70 t526.length co70)) (fun _ hk => hk.2) (.string t524)) (fun _ hk => hk.2) (.int .i64 t525)) (fun _ hk => hk.2) (.slice Ao70 t526.length co70)) (fun _ h_ => h_.1)) (fun _ h_ => h_.1))))) (below_size (lb3 HB GE503 GE514 GE531))); have n5_ := Aside0.mk (Kd.R_lower (Kd.R_new' ho1 (Kd.R_lt (by (with_reducible repeat (first | apply Kd.R_alloc | apply Kd.R_drewN | apply Kd.R_drew)); exact (Kd.R_mono (Kd.R_mono (Kd.R_far (p := ⟨gb514, 2, none⟩) (Kd.R_far (p := ⟨gb514, 1, none⟩) (Kd.R_far (p := ⟨gb514, 0, none⟩) (Kd.R_far (p := ⟨gb531, 2, none⟩) (Kd.R_far (p := ⟨gb531, 1, none⟩) (Kd.R_far (p := ⟨gb531, 0, none⟩) (Kd.R_types (Kd.R_types HO_18.out BK531.out (by decide)) BK514.out (by decide)) (fun _ hk => hk.1.2) (.string t524)) (fun _ hk => hk.1.2) (.int .i64 t525)) (fun _ hk => hk.1.2) (.slice Ao70 t526.length co70)) (fun _ hk => hk.2) (.string t524)) (fun _ hk => hk.2) (.int .i64 t525)) (fun _ hk => hk.2) (.slice Ao70 t526.length co70)) (fun _ h_ => h_.1)) (fun _ h_ => h_.1))))) (below_size (lb3 HB GE503 GE514 GE531))); have n6_ := kl2 BK503 NB503_514 NB503_531 hb; have n7_ := Aside0.mk (blk_below (g := gb514) (o := .cells #[.string t524, .int .i64 t525, .slice Ao70 t526.length co70] 31 (0, 0)) (by (with_reducible repeat (first | refine blk_drewN ?_ _ | refine blk_drew ?_ | refine blk_alloc ?_ _)); refine blk_put (cs := #[.string t524, .int .i64 t525, .slice Ao64 x515002_3.length co64]) ?_ 2 _ rfl; (with_reducible repeat (first | refine blk_drewN ?_ _ | refine blk_drew ?_ | refine blk_alloc ?_ _)); refine blk_put (cs := #[.string t524, .int .i64 x515001_3, .slice Ao64 x515002_3.length co64]) ?_ 1 _ rfl; (with_reducible repeat (first | refine blk_drewN ?_ _ | refine blk_drew ?_ | refine blk_alloc ?_ _)); refine blk_put (cs := #[.string x515000_3, .int .i64 x515001_3, .slice Ao64 x515002_3.length co64]) ?_ 0 _ rfl; (with_reducible repeat (first | refine blk_drewN ?_ _ | refine blk_drew ?_ | refine blk_alloc ?_ _)); refine blk_far ?_ NB514_531.out _; (with_reducible repeat (first | refine blk_drewN ?_ _ | refine blk_drew ?_ | refine blk_alloc ?_ _)); refine blk_far ?_ NB514_531.out _; (with_reducible repeat (first | refine blk_drewN ?_ _ | refine blk_drew ?_ | refine blk_alloc ?_ _)); refine blk_far ?_ NB514_531.out _; (with_reducible repeat (first | refine blk_drewN ?_ _ | refine blk_drew ?_ | refine blk_alloc ?_ _)); exact BK514.out) hb); have n8_ := Aside0.mk (blk_below (g := gb531) (o := .cells #[.string t524, .int .i64 t525, .slice Ao70 t526.length co70] 31 (0, 0)) (by (with_reducible repeat (first | refine blk_drewN ?_ _ | refine blk_drew ?_ | refine blk_alloc ?_ _)); refine blk_far ?_ NB531_514.out _; (with_reducible repeat (first | refine blk_drewN ?_ _ | refine blk_drew ?_ | refine blk_alloc ?_ _)); refine blk_far ?_ NB531_514.out _; (with_reducible repeat (first | refine blk_drewN ?_ _ | refine blk_drew ?_ | refine blk_alloc ?_ _)); refine blk_far ?_ NB531_514.out _; (with_reducible repeat (first | refine blk_drewN ?_ _ | refine blk_drew ?_ | refine blk_alloc ?_ _)); refine blk_put (cs := #[.string t524, .int .i64 t525, .slice none 0 0]) ?_ 2 _ rfl; (with_reducible repeat (first | refine blk_drewN ?_ _ | refine blk_drew ?_ | refine blk_alloc ?_ _)); refine blk_put (cs := #[.string t524, .int .i64 0, .slice none 0 0]) ?_ 1 _ rfl; (with_reducible repeat (first | refine blk_drewN ?_ _ | refine blk_drew ?_ | refine blk_alloc ?_ _)); refine blk_put (cs := #[.string (⟨#[]⟩ : ByteArray), .int .i64 0, .slice none 0 0]) ?_ 0 _ rfl; (with_reducible repeat (first | refine blk_drewN ?_ _ | refine blk_drew ?_ | refine blk_alloc ?_ _)); exact BK531.out) hb); have n9_ := ls3 HB GE503 GE514 GE531 hb; clear HO_16; clear HO_18; clear HO_515002; clear HO528; clear BK503; clear BK514; clear BK531; clear HB; have HO_16 := n0_; have HO_18 := n1_; have HO_515002 := n2_; have HO528 := n3_; have HO534 := n4_; have HO537 := n5_; have BK503 := n6_; have BK514 := n7_; have BK531 := n8_; have HB := n9_; clear n0_ n1_ n2_ n3_ n4_ n5_ n6_ n7_ n8_ n9_; (try clear hb); (try clear hb2); (try clear hk); (try clear hi); (try clear ho0); (try clear ho1); obtain ⟨Ao76, co76, eo76⟩ := Kd.R_slice HO537.out; subst eo76) | ((with_reducible refine gate_builtin (b := .append) (xs := #[.tmp 150, .tmp 151]) rfl ?_); (try (refine gate_guard (by rfl) ?_; dsimp only)); at_builtin; refine Kd.R_append_rows k98 (w0 := w) w.heap.size rfl (.tmp 150) (.tmp 151) 39 98 (.agg #[(.int .i64 0), (.int .i64 0), (.int .i64 0), (.string ⟨#[]⟩), (.int .i64 0), (.int .i64 0), (.int .i64 0), (.int .i64 0)]) 72 rfl Tryd.underlying39 info98 rfl (by decide) (by omega) u18 x18_3 t535 _ _ _ (fun k_ => some k_ ≠ (.slice Ao76 t535.length co76 : Value).ownBlock) (fun _ => False) rfl rfl ?aO ?aR (fun _ _ h => h) (fun _ h => h.elim) ?aF ?aB ?aS ?aL ?_; (case aR => repeat (first | exact (Kd.R_reads' HO537.out).2.2 | (with_reducible refine Kd.C_alloc ?_ _) | (with_reducible refine Kd.C_drewN ?_ _) | (with_reducible refine Kd.C_drew ?_))); (case aB => exact (lb3 HB GE503 GE514 GE531)); (case aF => exact (fun k_ hk => Kd.fresh' (Kd.R_lt (rk HO537)) k_ hk)); (case aO => exact (by (with_reducible repeat (first | apply Kd.R_alloc | apply Kd.R_drewN | apply Kd.R_drew)); exact Kd.R_mono HO_18.out (fun _ hk => hk.2))); (case aS => exact (below_size (lb3 HB GE503 GE514 GE531))); (case aL => have := LMc60.out; omega); intro v540 w75 ho hb hg hat; rw [← Ny539.out] at ho; have n0_ := Aside0.mk (Kd.R_over' (rk HO_16) (Kd.R_typed (rk HO_18)) (by decide) hg); have n1_ := Aside0.mk (Kd.R_over' (rk HO_515002) (Kd.R_typed (rk HO_18)) (by decide) hg); have n2_ := Aside0.mk (blk_grown (g := gb503) (o := .cells #[.slice A0_0 l0_0.length c0_0] 24 (0, 0)) (kb BK503) hg (Kd.R_ne HO_18.out BK503.out (by decide))); have n3_ := Aside0.mk (blk_grown (g := gb514) (o := .cells #[.string t524, .int .i64 t525, .slice Ao70 t526.length co70] 31 (0, 0)) (kb BK514) hg (Kd.R_ne HO_18.out BK514.out (by decide))); have n4_ := Aside0.mk (Kd.R_over' (rk HO528) (Kd.R_typed (rk HO_18)) (by decide) hg); have n5_ := Aside0.mk (blk_grown (g := gb531) (o := .cells #[.string t524, .int .i64 t525, .slice Ao70 t526.length co70] 31 (0, 0)) (kb BK531) hg (Kd.R_ne HO_18.out BK531.out (by decide))); have n6_ := Aside0.mk (Kd.R_over' (rk HO534) (Kd.R_typed (rk HO_18)) (by decide) hg); have n7_ := Aside0.mk (Kd.R_after (ok := (fun _ => True)) (rk HO537) hg hat); have n8_ := Aside0.mk (hb); have n9_ := Aside0.mk (ho); clear HO_16; clear HO_515002; clear BK503; clear BK514; clear HO528; clear BK531; clear HO534; clear HO537; clear HB; clear HO_18; have HO_16 := n0_; have HO_515002 := n1_; have BK503 := n2_; have BK514 := n3_; have HO528 := n4_; have BK531 := n5_; have HO534 := n6_; have HO537 := n7_; have HB := n8_; have HO541 := n9_; clear n0_ n1_ n2_ n3_ n4_ n5_ n6_ n7_ n8_ n9_; clear ho hb hg hat))
                 go_roundg k3
                 case measure => have := HJ4.out; have := HJ31.out; have := HK3.out; omega
                 case rel => exact ⟨(t529), (t532), (y539), (wrap64 (x19_3 + 1)), (t524), (t525), (t526), (.slice Ao70 t526.length co70), (by first | rfl | (simp; done) | (simp [*]; done)), (by first | rfl | (simp; done) | (simp [*]; done)), H', ⟨by have := HJ4.out; have := HJ31.out; have := HK3.out; omega⟩, ⟨by (with_reducible repeat (first | apply Kd.R_alloc | apply Kd.R_drewN | apply Kd.R_drew)); exact Kd.R_mono HO534.out (fun _ hk => trivial)⟩, ⟨by (with_reducible repeat (first | apply Kd.R_alloc | apply Kd.R_drewN | apply Kd.R_drew)); exact Kd.R_mono HO541.out (fun _ hk => trivial)⟩, ⟨by (with_reducible repeat (first | apply Kd.R_alloc | apply Kd.R_drewN | apply Kd.R_drew)); exact Kd.R_mono HO528.out (fun _ hk => trivial)⟩, ⟨kb BK503⟩, ⟨kb BK514⟩, ⟨lb3 HB GE503 GE514 GE531⟩⟩
                ·rw [if_neg c60] at H
                 exact absurd H (by simp)
               ·rw [if_neg c59] at H
                have c59b0 : (t538 == 0) = false := beq_eq_false_iff_ne.mpr c59
                have c59b1 : (t538 != 0) = true := bne_iff_ne.mpr c59
                exact absurd ((Option.some.inj H).trans HT_TRUE.out) (by simp)
              ·rw [if_neg c57] at H
               have c57b0 : (t530 == 0) = false := beq_eq_false_iff_ne.mpr c57
               have c57b1 : (t530 != 0) = true := bne_iff_ne.mpr c57
               have H' := Aside0.mk H
               clear H
               have hnb77 := NB514_503.out
               have hnc77 := NB503_514.out
               have hcz78_0 := bc BK514 0
               have hcz78_1 := bc BK514 1
               have hcz78_2 := bc BK514 2
               have hfz78_0 := blk_frozen BK514.out 0
               have hfz78_1 := blk_frozen BK514.out 1
               have hfz78_2 := blk_frozen BK514.out 2
               have hcz79_0 := bc BK503 0
               have hfz79_0 := blk_frozen BK503.out 0
               obtain ⟨Ao80, co80, eo80⟩ := Kd.R_slice HO_515002.out
               subst eo80
               go_wp2_with (first | ((with_reducible refine gate_callee (f := 14) rfl ?_); refine goesL_ (some 129) rfl rfl Tryd.func14 (by kernel_rfl) rfl #[.agg #[.string x515000_3, .int .i64 x515001_3, .slice Ao80 x515002_3.length co80], .agg #[.slice A0_0 l0_0.length c0_0], .int .i64 1, .int .i64 x19_3] rfl (by (try simp only [List.map_toArray, List.map_cons, List.map_nil]); first | done | rfl | (simp only [List.length_drop, List.length_take]; rfl)) ?_; (with_reducible refine (prepaid_Reserve.calls x515000_3 x515001_3 _ _ x515002_3 _ _ l0_0 1 x19_3 t524 t525 t526 t529 t530 _ ?side1 ?side2 ?side3 ?side4 A56.out).mono ?_); (case side1 => repeat (first | exact (Kd.R_reads' HO_515002.out).2.2 | (with_reducible refine Kd.C_alloc ?_ _) | (with_reducible refine Kd.C_drewN ?_ _) | (with_reducible refine Kd.C_drew ?_))); (case side2 => exact (Kd.R_reads' HO_515002.out).2.1); (case side3 => repeat (first | exact (Kd.C_below HR0_0.out HB.out) | (with_reducible refine Kd.C_alloc ?_ _) | (with_reducible refine Kd.C_drewN ?_ _) | (with_reducible refine Kd.C_drew ?_))); (case side4 => exact HC0_0.out); rintro e w81 ⟨v527, rfl, ho0, hb⟩; refine ⟨_, rfl, ?_⟩; have n0_ := Aside0.mk (Kd.R_below (rk HO_16) hb); have n1_ := Aside0.mk (Kd.R_below (rk HO_18) hb); have n2_ := Aside0.mk (Kd.R_elder' (rk HO_515002) (Kd.R_base ho0) hb); have n3_ := Aside0.mk (Kd.R_lower (Kd.R_new' ho0 (Kd.R_lt (rk HO_515002))) (below_size (lb2 HB GE503 GE514))); have n4_ := kl BK503 hb; have n5_ := kl BK514 hb; have n6_ := ls2 HB GE503 GE514 hb; clear HO_16; clear HO_18; clear HO_515002; clear BK503; clear BK514; clear HB; have HO_16 := n0_; have HO_18 := n1_; have HO_515002 := n2_; have HO528 := n3_; have BK503 := n4_; have BK514 := n5_; have HB := n6_; clear n0_ n1_ n2_ n3_ n4_ n5_ n6_; (try clear hb); (try clear hb2); (try clear hk); (try clear hi); (try clear ho0)) | ((with_reducible refine gate_dst (N := 20) rfl ?_); (try (refine gate_guard (by rfl) ?_; dsimp only)); refine box_event ?hg (N := 20) ?hd (cs := #[.string (⟨#[]⟩ : ByteArray), .int .i64 0, .slice none 0 0]) (t := 31) ?hr ?_; (case hd => rfl); (case hg => rfl); (case hr => first | (go_simp; done) | (go_simp; rfl)); intro gb531 hg w82 hbox hb; have n0_ := Aside0.mk (Kd.R_below (rk HO_16) hb); have n1_ := Aside0.mk (Kd.R_below (rk HO_18) hb); have n2_ := Aside0.mk (Kd.R_below (rk HO_515002) hb); have n3_ := Aside0.mk (Kd.R_below (rk HO528) hb); have n4_ := kl BK503 hb; have n5_ := kl BK514 hb; have n6_ := ls2 HB GE503 GE514 hb; have n7_ := Aside0.mk (hbox); have n8_ := Aside0.mk ((by rw [hg]; exact (below_size (lb2 HB GE503 GE514)) : w.heap.size ≤ gb531)); have n9_ := Aside0.mk ((by rw [hg]; exact (below_size (lb2 HB GE503 GE514)) : w.heap.size ≤ gb531)); have n10_ := kn BK503 hg; have n11_ := km BK503 hg; have n12_ := kn BK514 hg; have n13_ := km BK514 hg; clear HO_16; clear HO_18; clear HO_515002; clear HO528; clear BK503; clear BK514; clear HB; have HO_16 := n0_; have HO_18 := n1_; have HO_515002 := n2_; have HO528 := n3_; have BK503 := n4_; have BK514 := n5_; have HB := n6_; have BK531 := n7_; have GW531 := n8_; have GE531 := n9_; have NB503_531 := n10_; have NB531_503 := n11_; have NB514_531 := n12_; have NB531_514 := n13_; clear n0_ n1_ n2_ n3_ n4_ n5_ n6_ n7_ n8_ n9_ n10_ n11_ n12_ n13_; clear hb hbox hg; have hnb83 := NB531_503.out; have hnc83 := NB503_531.out; have hnb84 := NB531_514.out; have hnc84 := NB514_531.out; have hcz85_0 := bc BK531 0; have hcz85_1 := bc BK531 1; have hcz85_2 := bc BK531 2; have hfz85_0 := blk_frozen BK531.out 0; have hfz85_1 := blk_frozen BK531.out 1; have hfz85_2 := blk_frozen BK531.out 2; obtain ⟨Ao86, co86, eo86⟩ := Kd.R_slice HO528.out; subst eo86))
               go_meet
               case rel => exact ⟨_, (x16_3), (x18_3), (x19_3), (x515000_3), (x515001_3), (x515002_3), (.slice Ao80 x515002_3.length co80), (by first | rfl | (simp; done) | (simp [*]; done)), H', ⟨by have := HJ4.out; have := HJ31.out; have := HK3.out; first | omega | exact Nat.le_refl _⟩, ⟨by (with_reducible repeat (first | apply Kd.R_alloc | apply Kd.R_drewN | apply Kd.R_drew)); exact Kd.R_mono (Kd.R_far (p := ⟨gb531, 2, none⟩) (Kd.R_far (p := ⟨gb531, 1, none⟩) (Kd.R_far (p := ⟨gb531, 0, none⟩) (Kd.R_types HO_16.out BK531.out (by decide)) (fun _ hk => hk.2) (.string t524)) (fun _ hk => hk.2) (.int .i64 t525)) (fun _ hk => hk.2) (.slice Ao86 t526.length co86)) (fun _ hk => trivial)⟩, ⟨by (with_reducible repeat (first | apply Kd.R_alloc | apply Kd.R_drewN | apply Kd.R_drew)); exact Kd.R_mono (Kd.R_far (p := ⟨gb531, 2, none⟩) (Kd.R_far (p := ⟨gb531, 1, none⟩) (Kd.R_far (p := ⟨gb531, 0, none⟩) (Kd.R_types HO_18.out BK531.out (by decide)) (fun _ hk => hk.2) (.string t524)) (fun _ hk => hk.2) (.int .i64 t525)) (fun _ hk => hk.2) (.slice Ao86 t526.length co86)) (fun _ hk => trivial)⟩, ⟨by (with_reducible repeat (first | apply Kd.R_alloc | apply Kd.R_drewN | apply Kd.R_drew)); exact Kd.R_mono (Kd.R_far (p := ⟨gb531, 2, none⟩) (Kd.R_far (p := ⟨gb531, 1, none⟩) (Kd.R_far (p := ⟨gb531, 0, none⟩) (Kd.R_types HO_515002.out BK531.out (by decide)) (fun _ hk => hk.2) (.string t524)) (fun _ hk => hk.2) (.int .i64 t525)) (fun _ hk => hk.2) (.slice Ao86 t526.length co86)) (fun _ hk => trivial)⟩, ⟨kf1 BK503 NB503_531⟩, ⟨kf1 BK514 NB514_531⟩, ⟨lb3 HB GE503 GE514 GE531⟩⟩
             ·rw [if_neg c55] at H
              have c55b0 : decide (x12_3 ≤ x19_3) = false := decide_eq_false c55
              clear c55
              replace H := Option.bind_eq_some_iff.mp H
              obtain ⟨⟨t542, t545, t548⟩, A870, H⟩ := H
              replace H : (if t548 = 0 then (if x18_3.length + t545.length < 1954687338268 then (crossbartop_TopPrepaid.l0 k3 a1 a2 a3 t505 x12_3 t542 (x18_3 ++ t545) (wrap64 (x19_3 + 1)) l0_0 x515000_3 x515001_3 x515002_3) else (none)) else (some false)) = some r := H
              have A87 := Aside0.mk A870
              clear A870
              by_cases c88 : t548 = 0
              ·rw [if_pos c88] at H
               have c88b0 : (t548 == 0) = true := beq_iff_eq.mpr c88
               have c88b1 : (t548 != 0) = false := bne_eq_false_iff_eq.mpr c88
               clear c88
               by_cases c89 : x18_3.length + t545.length < 1954687338268
               ·rw [if_pos c89] at H
                have LMc89 := Aside0.mk c89
                clear c89
                obtain ⟨y549, hy549⟩ : ∃ y_ : List (S98), y_ = (x18_3 ++ t545) := ⟨_, rfl⟩
                replace H : (crossbartop_TopPrepaid.l0 k3 a1 a2 a3 t505 x12_3 t542 y549 (wrap64 (x19_3 + 1)) l0_0 x515000_3 x515001_3 x515002_3) = some r := by first | (rw [hy549]; with_reducible exact H) | (have H2_ := (Option.bind_some _ _).symm.trans H; rw [hy549]; with_reducible exact H2_) | (have H2_ := (Option.bind_some _ _).symm.trans H; with_reducible exact H2_) | with_reducible exact H | (rw [hy549]; exact H) | exact H
                have Ny549 := Aside0.mk hy549
                clear hy549
                have H' := Aside0.mk H
                clear H
                have hnb90 := NB503_514.out
                have hnc90 := NB514_503.out
                have hcz91_0 := bc BK503 0
                have hfz91_0 := blk_frozen BK503.out 0
                obtain ⟨Ao92, co92, eo92⟩ := Kd.R_slice HO_16.out
                subst eo92
                go_wp2_with (first | ((with_reducible refine gate_callee (f := 16) rfl ?_); refine goesL_ (some 143) rfl rfl Tryd.func16 (by kernel_rfl) rfl #[.slice Ao92 x16_3.length co92, .agg #[.slice A0_0 l0_0.length c0_0], .int .i64 (wrap64 (x19_3 + 1))] rfl (by (try simp only [List.map_toArray, List.map_cons, List.map_nil]); first | done | rfl | (simp only [List.length_drop, List.length_take]; rfl)) ?_; (with_reducible refine (meter_Advance.calls _ _ x16_3 _ _ l0_0 (wrap64 (x19_3 + 1)) t542 t545 t548 _ ?side1 ?side2 ?side3 ?side4 A87.out).mono ?_); (case side1 => repeat (first | exact (Kd.R_reads' HO_16.out).2.2 | (with_reducible refine Kd.C_alloc ?_ _) | (with_reducible refine Kd.C_drewN ?_ _) | (with_reducible refine Kd.C_drew ?_))); (case side2 => exact (Kd.R_reads' HO_16.out).2.1); (case side3 => repeat (first | exact (Kd.C_below HR0_0.out HB.out) | (with_reducible refine Kd.C_alloc ?_ _) | (with_reducible refine Kd.C_drewN ?_ _) | (with_reducible refine Kd.C_drew ?_))); (case side4 => exact HC0_0.out); rintro e w93 ⟨v543, v546, rfl, ho0, ho1, hb⟩; refine ⟨_, rfl, ?_⟩; have n0_ := Aside0.mk (Kd.R_elder' (rk HO_16) (Kd.R_base ho0) hb); have n1_ := Aside0.mk (Kd.R_elder' (rk HO_18) (Kd.R_base ho1) hb); have n2_ := Aside0.mk (Kd.R_below (rk HO_515002) hb); have n3_ := Aside0.mk (Kd.R_lower (Kd.R_new' ho0 (Kd.R_lt (rk HO_16))) (below_size (lb2 HB GE503 GE514))); have n4_ := Aside0.mk (Kd.R_lower (Kd.R_new' ho1 (Kd.R_lt (rk HO_18))) (below_size (lb2 HB GE503 GE514))); have n5_ := kl BK503 hb; have n6_ := kl BK514 hb; have n7_ := ls2 HB GE503 GE514 hb; clear HO_16; clear HO_18; clear HO_515002; clear BK503; clear BK514; clear HB; have HO_16 := n0_; have HO_18 := n1_; have HO_515002 := n2_; have HO544 := n3_; have HO547 := n4_; have BK503 := n5_; have BK514 := n6_; have HB := n7_; clear n0_ n1_ n2_ n3_ n4_ n5_ n6_ n7_; (try clear hb); (try clear hb2); (try clear hk); (try clear hi); (try clear ho0); (try clear ho1); obtain ⟨Ao95, co95, eo95⟩ := Kd.R_slice HO547.out; subst eo95) | ((with_reducible refine gate_builtin (b := .append) (xs := #[.tmp 150, .tmp 151]) rfl ?_); (try (refine gate_guard (by rfl) ?_; dsimp only)); at_builtin; refine Kd.R_append_rows k98 (w0 := w) w.heap.size rfl (.tmp 150) (.tmp 151) 39 98 (.agg #[(.int .i64 0), (.int .i64 0), (.int .i64 0), (.string ⟨#[]⟩), (.int .i64 0), (.int .i64 0), (.int .i64 0), (.int .i64 0)]) 72 rfl Tryd.underlying39 info98 rfl (by decide) (by omega) u18 x18_3 t545 _ _ _ (fun k_ => some k_ ≠ (.slice Ao95 t545.length co95 : Value).ownBlock) (fun _ => False) rfl rfl ?aO ?aR (fun _ _ h => h) (fun _ h => h.elim) ?aF ?aB ?aS ?aL ?_; (case aR => repeat (first | exact (Kd.R_reads' HO547.out).2.2 | (with_reducible refine Kd.C_alloc ?_ _) | (with_reducible refine Kd.C_drewN ?_ _) | (with_reducible refine Kd.C_drew ?_))); (case aB => exact (lb2 HB GE503 GE514)); (case aF => exact (fun k_ hk => Kd.fresh' (Kd.R_lt (rk HO547)) k_ hk)); (case aO => exact (by (with_reducible repeat (first | apply Kd.R_alloc | apply Kd.R_drewN | apply Kd.R_drew)); exact Kd.R_mono HO_18.out (fun _ hk => hk.2))); (case aS => exact (below_size (lb2 HB GE503 GE514))); (case aL => have := LMc89.out; omega); intro v550 w94 ho hb hg hat; rw [← Ny549.out] at ho; have n0_ := Aside0.mk (Kd.R_over' (rk HO_16) (Kd.R_typed (rk HO_18)) (by decide) hg); have n1_ := Aside0.mk (Kd.R_over' (rk HO_515002) (Kd.R_typed (rk HO_18)) (by decide) hg); have n2_ := Aside0.mk (blk_grown (g := gb503) (o := .cells #[.slice A0_0 l0_0.length c0_0] 24 (0, 0)) (kb BK503) hg (Kd.R_ne HO_18.out BK503.out (by decide))); have n3_ := Aside0.mk (blk_grown (g := gb514) (o := .cells #[.string x515000_3, .int .i64 x515001_3, u515002] 31 (0, 0)) (kb BK514) hg (Kd.R_ne HO_18.out BK514.out (by decide))); have n4_ := Aside0.mk (Kd.R_over' (rk HO544) (Kd.R_typed (rk HO_18)) (by decide) hg); have n5_ := Aside0.mk (Kd.R_after (ok := (fun _ => True)) (rk HO547) hg hat); have n6_ := Aside0.mk (hb); have n7_ := Aside0.mk (ho); clear HO_16; clear HO_515002; clear BK503; clear BK514; clear HO544; clear HO547; clear HB; clear HO_18; have HO_16 := n0_; have HO_515002 := n1_; have BK503 := n2_; have BK514 := n3_; have HO544 := n4_; have HO547 := n5_; have HB := n6_; have HO551 := n7_; clear n0_ n1_ n2_ n3_ n4_ n5_ n6_ n7_; clear ho hb hg hat))
                go_roundg k3
                case measure => have := HJ4.out; have := HJ31.out; have := HK3.out; omega
                case rel => exact ⟨(x12_3), (t542), (y549), (wrap64 (x19_3 + 1)), (x515000_3), (x515001_3), (x515002_3), (u515002), (by first | rfl | (simp; done) | (simp [*]; done)), (by first | rfl | (simp; done) | (simp [*]; done)), H', ⟨by have := HJ4.out; have := HJ31.out; have := HK3.out; omega⟩, ⟨by (with_reducible repeat (first | apply Kd.R_alloc | apply Kd.R_drewN | apply Kd.R_drew)); exact Kd.R_mono HO544.out (fun _ hk => trivial)⟩, ⟨by (with_reducible repeat (first | apply Kd.R_alloc | apply Kd.R_drewN | apply Kd.R_drew)); exact Kd.R_mono HO551.out (fun _ hk => trivial)⟩, ⟨rk HO_515002⟩, ⟨kb BK503⟩, ⟨kb BK514⟩, ⟨lb2 HB GE503 GE514⟩⟩
               ·rw [if_neg c89] at H
                exact absurd H (by simp)
              ·rw [if_neg c88] at H
               have c88b0 : (t548 == 0) = false := beq_eq_false_iff_ne.mpr c88
               have c88b1 : (t548 != 0) = true := bne_iff_ne.mpr c88
               exact absurd ((Option.some.inj H).trans HT_TRUE.out) (by simp)
            ·rw [if_neg c54] at H
             have c54b0 : decide (x19_3 < (wrap64 (a2 + a3))) = false := decide_eq_false c54
             clear c54
             (first | rw [c54b0] | (simp only [i64_w, i32_w]; rw [c54b0]) | skip)
             have H' := Aside0.mk H
             clear H
             go_wp2
             go_meet
             case rel => exact ⟨_, (x16_3), (x18_3), (x19_3), (x515000_3), (x515001_3), (x515002_3), (u515002), (by first | rfl | (simp; done) | (simp [*]; done)), H', ⟨by have := HJ4.out; have := HJ31.out; have := HK3.out; first | omega | exact Nat.le_refl _⟩, ⟨rk HO_16⟩, ⟨rk HO_18⟩, ⟨rk HO_515002⟩, ⟨kb BK503⟩, ⟨kb BK514⟩, ⟨lb2 HB GE503 GE514⟩⟩
         case rest =>
          clear HC42
          try clear c1; try clear c2; try clear p2; try clear c3; try clear c4; try clear c5; try clear c6; try clear p6; try clear c7; try clear c7b0; try clear c7b1; try clear c8; try clear c9; try clear c10; try clear c10b0; try clear c10b1; try clear c11; try clear c11b0; try clear c13; try clear c14; try clear c14b0; try clear c15; try clear c16; try clear c17; try clear c17b0; try clear c20; try clear c20b0; try clear c23; try clear c23b0; try clear c30; try clear c35; try clear c35b0; try clear c35b1; try clear c36; try clear c39; try clear c39b0; try clear c39b1; try clear c41; try clear c41b0; try clear c41b1; try clear c46; try clear c54; try clear c54b0; try clear c55; try clear c55b0; try clear c57; try clear c57b0; try clear c57b1; try clear c59; try clear c59b0; try clear c59b1; try clear c60; try clear c61; try clear p64; try clear c67; try clear c68; try clear c77; try clear c83; try clear c84; try clear c88; try clear c88b0; try clear c88b1; try clear c89; try clear c90; try clear hcz12_0; try clear hcz15_0; try clear hcz18_0; try clear hcz21_0; try clear hcz24_0; try clear hcz26_0; try clear hcz28_0; try clear hcz33_0; try clear hcz43_0; try clear hcz47_0; try clear hcz47_1; try clear hcz47_2; try clear hcz49_0; try clear hcz62_0; try clear hcz62_1; try clear hcz62_2; try clear hcz63_0; try clear hcz69_0; try clear hcz69_1; try clear hcz69_2; try clear hcz71_0; try clear hcz71_1; try clear hcz71_2; try clear hcz72_0; try clear hcz78_0; try clear hcz78_1; try clear hcz78_2; try clear hcz79_0; try clear hcz85_0; try clear hcz85_1; try clear hcz85_2; try clear hcz8_0; try clear hcz91_0; try clear hfz12_0; try clear hfz15_0; try clear hfz18_0; try clear hfz21_0; try clear hfz24_0; try clear hfz26_0; try clear hfz28_0; try clear hfz33_0; try clear hfz43_0; try clear hfz47_0; try clear hfz47_1; try clear hfz47_2; try clear hfz49_0; try clear hfz62_0; try clear hfz62_1; try clear hfz62_2; try clear hfz63_0; try clear hfz69_0; try clear hfz69_1; try clear hfz69_2; try clear hfz71_0; try clear hfz71_1; try clear hfz71_2; try clear hfz72_0; try clear hfz78_0; try clear hfz78_1; try clear hfz78_2; try clear hfz79_0; try clear hfz85_0; try clear hfz85_1; try clear hfz85_2; try clear hfz8_0; try clear hfz91_0; try clear p2
          obtain ⟨kq, x16_41, x18_41, x19_41, x515000_41, x515001_41, x515002_41, u515002, rfl, HA, HJ41, HO_16, HO_18, HO_515002, BK503, BK514, HB⟩ := hcut
          cases kq with
          | zero => exact absurd HA.out (by simp [crossbartop_TopPrepaid.j3])
          | succ kj41 =>
           have H := HA.out
           clear HA
           simp only [crossbartop_TopPrepaid.j3] at H
           replace H := Option.bind_eq_some_iff.mp H
           obtain ⟨⟨t552, t555, t558⟩, A960, H⟩ := H
           replace H : (if x18_41.length + t555.length < 1954687338268 then ((meter_Total.f kj41 (x18_41 ++ t555) 1 1).bind fun bt562 => ((tariff_Price.f kj41 l0_0 a2 x19_41).bind fun bt564 => ((prepaid_Settle.f x515000_41 x515001_41 x515002_41 1 bt562.1).bind fun bt566 => (if t558 = 0 then (if bt564.2 = 0 then (if bt566.2.2.2 = 0 then (if (t552.length : Int) > 0 then (some false) else (if bt562.2 = (wrap64 (x19_41 - a2)) then (if bt562.1 = bt564.1 then (if (wrap64 (x19_41 - a2)) = t505 then (if (bt566.2.2.1.length : Int) = 0 then (some (bt566.2.1 == (wrap64 (a1 - bt564.1)))) else (some false)) else (some false)) else (some false)) else (some false))) else (some false)) else (some false)) else (some false))))) else (none)) = some r := H
           have A96 := Aside0.mk A960
           clear A960
           by_cases c97 : x18_41.length + t555.length < 1954687338268
           ·rw [if_pos c97] at H
            have LMc97 := Aside0.mk c97
            clear c97
            obtain ⟨y559, hy559⟩ : ∃ y_ : List (S98), y_ = (x18_41 ++ t555) := ⟨_, rfl⟩
            replace H : ((meter_Total.f kj41 y559 1 1).bind fun bt562 => ((tariff_Price.f kj41 l0_0 a2 x19_41).bind fun bt564 => ((prepaid_Settle.f x515000_41 x515001_41 x515002_41 1 bt562.1).bind fun bt566 => (if t558 = 0 then (if bt564.2 = 0 then (if bt566.2.2.2 = 0 then (if (t552.length : Int) > 0 then (some false) else (if bt562.2 = (wrap64 (x19_41 - a2)) then (if bt562.1 = bt564.1 then (if (wrap64 (x19_41 - a2)) = t505 then (if (bt566.2.2.1.length : Int) = 0 then (some (bt566.2.1 == (wrap64 (a1 - bt564.1)))) else (some false)) else (some false)) else (some false)) else (some false))) else (some false)) else (some false)) else (some false))))) = some r := by first | (rw [hy559]; with_reducible exact H) | (have H2_ := (Option.bind_some _ _).symm.trans H; rw [hy559]; with_reducible exact H2_) | (have H2_ := (Option.bind_some _ _).symm.trans H; with_reducible exact H2_) | with_reducible exact H | (rw [hy559]; exact H) | exact H
            have Ny559 := Aside0.mk hy559
            clear hy559
            replace H := Option.bind_eq_some_iff.mp H
            obtain ⟨⟨t562, t563⟩, A980, H⟩ := H
            replace H : ((tariff_Price.f kj41 l0_0 a2 x19_41).bind fun bt564 => ((prepaid_Settle.f x515000_41 x515001_41 x515002_41 1 t562).bind fun bt566 => (if t558 = 0 then (if bt564.2 = 0 then (if bt566.2.2.2 = 0 then (if (t552.length : Int) > 0 then (some false) else (if t563 = (wrap64 (x19_41 - a2)) then (if t562 = bt564.1 then (if (wrap64 (x19_41 - a2)) = t505 then (if (bt566.2.2.1.length : Int) = 0 then (some (bt566.2.1 == (wrap64 (a1 - bt564.1)))) else (some false)) else (some false)) else (some false)) else (some false))) else (some false)) else (some false)) else (some false)))) = some r := H
            have A98 := Aside0.mk A980
            clear A980
            replace H := Option.bind_eq_some_iff.mp H
            obtain ⟨⟨t564, t565⟩, A990, H⟩ := H
            replace H : ((prepaid_Settle.f x515000_41 x515001_41 x515002_41 1 t562).bind fun bt566 => (if t558 = 0 then (if t565 = 0 then (if bt566.2.2.2 = 0 then (if (t552.length : Int) > 0 then (some false) else (if t563 = (wrap64 (x19_41 - a2)) then (if t562 = t564 then (if (wrap64 (x19_41 - a2)) = t505 then (if (bt566.2.2.1.length : Int) = 0 then (some (bt566.2.1 == (wrap64 (a1 - t564)))) else (some false)) else (some false)) else (some false)) else (some false))) else (some false)) else (some false)) else (some false))) = some r := H
            have A99 := Aside0.mk A990
            clear A990
            replace H := Option.bind_eq_some_iff.mp H
            obtain ⟨⟨t566, t567, t568, t571⟩, A1000, H⟩ := H
            replace H : (if t558 = 0 then (if t565 = 0 then (if t571 = 0 then (if (t552.length : Int) > 0 then (some false) else (if t563 = (wrap64 (x19_41 - a2)) then (if t562 = t564 then (if (wrap64 (x19_41 - a2)) = t505 then (if (t568.length : Int) = 0 then (some (t567 == (wrap64 (a1 - t564)))) else (some false)) else (some false)) else (some false)) else (some false))) else (some false)) else (some false)) else (some false)) = some r := H
            have A100 := Aside0.mk A1000
            clear A1000
            by_cases c101 : t558 = 0
            ·rw [if_pos c101] at H
             have c101b0 : (t558 == 0) = true := beq_iff_eq.mpr c101
             have c101b1 : (t558 != 0) = false := bne_eq_false_iff_eq.mpr c101
             clear c101
             by_cases c102 : t565 = 0
             ·rw [if_pos c102] at H
              have c102b0 : (t565 == 0) = true := beq_iff_eq.mpr c102
              have c102b1 : (t565 != 0) = false := bne_eq_false_iff_eq.mpr c102
              clear c102
              by_cases c103 : t571 = 0
              ·rw [if_pos c103] at H
               have c103b0 : (t571 == 0) = true := beq_iff_eq.mpr c103
               have c103b1 : (t571 != 0) = false := bne_eq_false_iff_eq.mpr c103
               clear c103
               by_cases c104 : (t552.length : Int) > 0
               ·rw [if_pos c104] at H
                have c104b0 : decide (0 < (t552.length : Int)) = true := decide_eq_true c104
                have c104b1 : decide (0 < t552.length) = true := decide_eq_true (by omega)
                clear c104
                exact absurd ((Option.some.inj H).trans HT_TRUE.out) (by simp)
               ·rw [if_neg c104] at H
                have c104b0 : decide (0 < (t552.length : Int)) = false := decide_eq_false c104
                have c104b1 : decide (0 < t552.length) = false := decide_eq_false (by omega)
                clear c104
                by_cases c105 : t563 = (wrap64 (x19_41 - a2))
                ·rw [if_pos c105] at H
                 have c105b0 : (t563 == (wrap64 (x19_41 - a2))) = true := beq_iff_eq.mpr c105
                 have c105b1 : (t563 != (wrap64 (x19_41 - a2))) = false := bne_eq_false_iff_eq.mpr c105
                 clear c105
                 by_cases c106 : t562 = t564
                 ·rw [if_pos c106] at H
                  have c106b0 : (t562 == t564) = true := beq_iff_eq.mpr c106
                  have c106b1 : (t562 != t564) = false := bne_eq_false_iff_eq.mpr c106
                  clear c106
                  by_cases c107 : (wrap64 (x19_41 - a2)) = t505
                  ·rw [if_pos c107] at H
                   have c107b0 : ((wrap64 (x19_41 - a2)) == t505) = true := beq_iff_eq.mpr c107
                   have c107b1 : ((wrap64 (x19_41 - a2)) != t505) = false := bne_eq_false_iff_eq.mpr c107
                   clear c107
                   by_cases c108 : (t568.length : Int) = 0
                   ·rw [if_pos c108] at H
                    have c108b0 : ((t568.length : Int) == 0) = true := beq_iff_eq.mpr c108
                    have c108b1 : ((t568.length : Int) != 0) = false := bne_eq_false_iff_eq.mpr c108
                    clear c108
                    obtain rfl := Option.some.inj H
                    have hnb109 := NB503_514.out
                    have hnc109 := NB514_503.out
                    have hcz110_0 := bc BK503 0
                    have hfz110_0 := blk_frozen BK503.out 0
                    obtain ⟨Ao111, co111, eo111⟩ := Kd.R_slice HO_16.out
                    subst eo111
                    go_wp2_with (first | ((with_reducible refine gate_callee (f := 17) rfl ?_); refine goesL_ (some 157) rfl rfl Tryd.func17 (by kernel_rfl) rfl #[.slice Ao111 x16_41.length co111, .agg #[.slice A0_0 l0_0.length c0_0], .int .i64 1, .int .i64 x19_41] rfl (by (try simp only [List.map_toArray, List.map_cons, List.map_nil]); first | done | rfl | (simp only [List.length_drop, List.length_take]; rfl)) ?_; (with_reducible refine (meter_Stop.calls _ _ x16_41 _ _ l0_0 1 x19_41 t552 t555 t558 _ ?side1 ?side2 ?side3 ?side4 A96.out).mono ?_); (case side1 => repeat (first | exact (Kd.R_reads' HO_16.out).2.2 | (with_reducible refine Kd.C_alloc ?_ _) | (with_reducible refine Kd.C_drewN ?_ _) | (with_reducible refine Kd.C_drew ?_))); (case side2 => exact (Kd.R_reads' HO_16.out).2.1); (case side3 => repeat (first | exact (Kd.C_below HR0_0.out HB.out) | (with_reducible refine Kd.C_alloc ?_ _) | (with_reducible refine Kd.C_drewN ?_ _) | (with_reducible refine Kd.C_drew ?_))); (case side4 => exact HC0_0.out); rintro e w112 ⟨v553, v556, rfl, ho0, ho1, hb⟩; refine ⟨_, rfl, ?_⟩; have n0_ := Aside0.mk (Kd.R_elder' (rk HO_16) (Kd.R_base ho0) hb); have n1_ := Aside0.mk (Kd.R_elder' (rk HO_18) (Kd.R_base ho1) hb); have n2_ := Aside0.mk (Kd.R_below (rk HO_515002) hb); have n3_ := Aside0.mk (Kd.R_lower (Kd.R_new' ho0 (Kd.R_lt (rk HO_16))) (below_size (lb2 HB GE503 GE514))); have n4_ := Aside0.mk (Kd.R_lower (Kd.R_new' ho1 (Kd.R_lt (rk HO_18))) (below_size (lb2 HB GE503 GE514))); have n5_ := kl BK503 hb; have n6_ := kl BK514 hb; have n7_ := ls2 HB GE503 GE514 hb; clear HO_16; clear HO_18; clear HO_515002; clear BK503; clear BK514; clear HB; have HO_16 := n0_; have HO_18 := n1_; have HO_515002 := n2_; have HO554 := n3_; have HO557 := n4_; have BK503 := n5_; have BK514 := n6_; have HB := n7_; clear n0_ n1_ n2_ n3_ n4_ n5_ n6_ n7_; (try clear hb); (try clear hb2); (try clear hk); (try clear hi); (try clear ho0); (try clear ho1); obtain ⟨Ao114, co114, eo114⟩ := Kd.R_slice HO557.out; subst eo114) | ((with_reducible refine gate_builtin (b := .append) (xs := #[.tmp 161, .tmp 162]) rfl ?_); (try (refine gate_guard (by rfl) ?_; dsimp only)); at_builtin; refine Kd.R_append_rows k98 (w0 := w) w.heap.size rfl (.tmp 161) (.tmp 162) 39 98 (.agg #[(.int .i64 0), (.int .i64 0), (.int .i64 0), (.string ⟨#[]⟩), (.int .i64 0), (.int .i64 0), (.int .i64 0), (.int .i64 0)]) 72 rfl Tryd.underlying39 info98 rfl (by decide) (by omega) u18 x18_41 t555 _ _ _ (fun k_ => some k_ ≠ (.slice Ao114 t555.length co114 : Value).ownBlock) (fun _ => False) rfl rfl ?aO ?aR (fun _ _ h => h) (fun _ h => h.elim) ?aF ?aB ?aS ?aL ?_; (case aR => repeat (first | exact (Kd.R_reads' HO557.out).2.2 | (with_reducible refine Kd.C_alloc ?_ _) | (with_reducible refine Kd.C_drewN ?_ _) | (with_reducible refine Kd.C_drew ?_))); (case aB => exact (lb2 HB GE503 GE514)); (case aF => exact (fun k_ hk => Kd.fresh' (Kd.R_lt (rk HO557)) k_ hk)); (case aO => exact (by (with_reducible repeat (first | apply Kd.R_alloc | apply Kd.R_drewN | apply Kd.R_drew)); exact Kd.R_mono HO_18.out (fun _ hk => hk.2))); (case aS => exact (below_size (lb2 HB GE503 GE514))); (case aL => have := LMc97.out; omega); intro v560 w113 ho hb hg hat; rw [← Ny559.out] at ho; have n0_ := Aside0.mk (Kd.R_over' (rk HO_16) (Kd.R_typed (rk HO_18)) (by decide) hg); have n1_ := Aside0.mk (Kd.R_over' (rk HO_515002) (Kd.R_typed (rk HO_18)) (by decide) hg); have n2_ := Aside0.mk (blk_grown (g := gb503) (o := .cells #[.slice A0_0 l0_0.length c0_0] 24 (0, 0)) (kb BK503) hg (Kd.R_ne HO_18.out BK503.out (by decide))); have n3_ := Aside0.mk (blk_grown (g := gb514) (o := .cells #[.string x515000_41, .int .i64 x515001_41, u515002] 31 (0, 0)) (kb BK514) hg (Kd.R_ne HO_18.out BK514.out (by decide))); have n4_ := Aside0.mk (Kd.R_over' (rk HO554) (Kd.R_typed (rk HO_18)) (by decide) hg); have n5_ := Aside0.mk (Kd.R_after (ok := (fun _ => True)) (rk HO557) hg hat); have n6_ := Aside0.mk (hb); have n7_ := Aside0.mk (ho); clear HO_16; clear HO_515002; clear BK503; clear BK514; clear HO554; clear HO557; clear HB; clear HO_18; have HO_16 := n0_; have HO_515002 := n1_; have BK503 := n2_; have BK514 := n3_; have HO554 := n4_; have HO557 := n5_; have HB := n6_; have HO561 := n7_; clear n0_ n1_ n2_ n3_ n4_ n5_ n6_ n7_; clear ho hb hg hat; obtain ⟨Ao115, co115, eo115⟩ := Kd.R_slice HO561.out; subst eo115) | ((with_reducible refine gate_callee (f := 18) rfl ?_); refine goesL_ (some 166) rfl rfl Tryd.func18 (by kernel_rfl) rfl #[.slice Ao115 y559.length co115, .int .i64 1, .int .i64 1] rfl (by (try simp only [List.map_toArray, List.map_cons, List.map_nil]); first | done | rfl | (simp only [List.length_drop, List.length_take]; rfl)) ?_; (with_reducible refine (meter_Total.calls kj41 _ _ y559 1 1 t562 t563 _ ?side1 ?side2 A98.out).mono ?_); (case side1 => repeat (first | exact (Kd.R_reads' HO561.out).2.2 | (with_reducible refine Kd.C_alloc ?_ _) | (with_reducible refine Kd.C_drewN ?_ _) | (with_reducible refine Kd.C_drew ?_))); (case side2 => exact (Kd.R_reads' HO561.out).2.1); rintro e w116 ⟨rfl, hb⟩; refine ⟨_, rfl, ?_⟩; have n0_ := Aside0.mk (Kd.R_below (rk HO_16) hb); have n1_ := Aside0.mk (Kd.R_below (rk HO_515002) hb); have n2_ := Aside0.mk (Kd.R_below (rk HO554) hb); have n3_ := Aside0.mk (Kd.R_below (rk HO557) hb); have n4_ := Aside0.mk (Kd.R_below (rk HO561) hb); have n5_ := kl BK503 hb; have n6_ := kl BK514 hb; have n7_ := ls2 HB GE503 GE514 hb; clear HO_16; clear HO_515002; clear HO554; clear HO557; clear HO561; clear BK503; clear BK514; clear HB; have HO_16 := n0_; have HO_515002 := n1_; have HO554 := n2_; have HO557 := n3_; have HO561 := n4_; have BK503 := n5_; have BK514 := n6_; have HB := n7_; clear n0_ n1_ n2_ n3_ n4_ n5_ n6_ n7_; (try clear hb); (try clear hb2); (try clear hk); (try clear hi); have hcz117_0 := bc BK503 0; have hfz117_0 := blk_frozen BK503.out 0) | ((with_reducible refine gate_callee (f := 19) rfl ?_); refine goesL_ (some 173) rfl rfl Tryd.func19 (by kernel_rfl) rfl #[.agg #[.slice A0_0 l0_0.length c0_0], .int .i64 a2, .int .i64 x19_41] rfl (by (try simp only [List.map_toArray, List.map_cons, List.map_nil]); first | done | rfl | (simp only [List.length_drop, List.length_take]; rfl)) ?_; (with_reducible refine (tariff_Price.calls kj41 _ _ l0_0 a2 x19_41 t564 t565 _ ?side1 ?side2 A99.out).mono ?_); (case side1 => repeat (first | exact (Kd.C_below HR0_0.out HB.out) | (with_reducible refine Kd.C_alloc ?_ _) | (with_reducible refine Kd.C_drewN ?_ _) | (with_reducible refine Kd.C_drew ?_))); (case side2 => exact HC0_0.out); rintro e w118 ⟨rfl, hb⟩; refine ⟨_, rfl, ?_⟩; have n0_ := Aside0.mk (Kd.R_below (rk HO_16) hb); have n1_ := Aside0.mk (Kd.R_below (rk HO_515002) hb); have n2_ := Aside0.mk (Kd.R_below (rk HO554) hb); have n3_ := Aside0.mk (Kd.R_below (rk HO557) hb); have n4_ := Aside0.mk (Kd.R_below (rk HO561) hb); have n5_ := kl BK503 hb; have n6_ := kl BK514 hb; have n7_ := ls2 HB GE503 GE514 hb; clear HO_16; clear HO_515002; clear HO554; clear HO557; clear HO561; clear BK503; clear BK514; clear HB; have HO_16 := n0_; have HO_515002 := n1_; have HO554 := n2_; have HO557 := n3_; have HO561 := n4_; have BK503 := n5_; have BK514 := n6_; have HB := n7_; clear n0_ n1_ n2_ n3_ n4_ n5_ n6_ n7_; (try clear hb); (try clear hb2); (try clear hk); (try clear hi); have hcz119_0 := bc BK514 0; have hcz119_1 := bc BK514 1; have hcz119_2 := bc BK514 2; have hfz119_0 := blk_frozen BK514.out 0; have hfz119_1 := blk_frozen BK514.out 1; have hfz119_2 := blk_frozen BK514.out 2; obtain ⟨Ao120, co120, eo120⟩ := Kd.R_slice HO_515002.out; subst eo120) | ((with_reducible refine gate_callee (f := 20) rfl ?_); refine goesL_ (some 179) rfl rfl Tryd.func20 (by kernel_rfl) rfl #[.agg #[.string x515000_41, .int .i64 x515001_41, .slice Ao120 x515002_41.length co120], .int .i64 1, .int .i64 t562] rfl (by (try simp only [List.map_toArray, List.map_cons, List.map_nil]); first | done | rfl | (simp only [List.length_drop, List.length_take]; rfl)) ?_; (with_reducible refine (prepaid_Settle.calls x515000_41 x515001_41 _ _ x515002_41 1 t562 t566 t567 t568 t571 _ ?side1 ?side2 A100.out).mono ?_); (case side1 => repeat (first | exact (Kd.R_reads' HO_515002.out).2.2 | (with_reducible refine Kd.C_alloc ?_ _) | (with_reducible refine Kd.C_drewN ?_ _) | (with_reducible refine Kd.C_drew ?_))); (case side2 => exact (Kd.R_reads' HO_515002.out).2.1); rintro e w121 ⟨v569, rfl, ho0, hb⟩; refine ⟨_, rfl, ?_⟩; have n0_ := Aside0.mk (Kd.R_below (rk HO_16) hb); have n1_ := Aside0.mk (Kd.R_elder' (rk HO_515002) (Kd.R_base ho0) hb); have n2_ := Aside0.mk (Kd.R_below (rk HO554) hb); have n3_ := Aside0.mk (Kd.R_below (rk HO557) hb); have n4_ := Aside0.mk (Kd.R_below (rk HO561) hb); have n5_ := Aside0.mk (Kd.R_lower (Kd.R_new' ho0 (Kd.R_lt (rk HO_515002))) (below_size (lb2 HB GE503 GE514))); have n6_ := kl BK503 hb; have n7_ := kl BK514 hb; have n8_ := ls2 HB GE503 GE514 hb; clear HO_16; clear HO_515002; clear HO554; clear HO557; clear HO561; clear BK503; clear BK514; clear HB; have HO_16 := n0_; have HO_515002 := n1_; have HO554 := n2_; have HO557 := n3_; have HO561 := n4_; have HO570 := n5_; have BK503 := n6_; have BK514 := n7_; have HB := n8_; clear n0_ n1_ n2_ n3_ n4_ n5_ n6_ n7_ n8_; (try clear hb); (try clear hb2); (try clear hk); (try clear hi); (try clear ho0)) | ((with_reducible refine gate_dst (N := 30) rfl ?_); (try (refine gate_guard (by rfl) ?_; dsimp only)); refine box_event ?hg (N := 30) ?hd (cs := #[.string (⟨#[]⟩ : ByteArray), .int .i64 0, .slice none 0 0]) (t := 31) ?hr ?_; (case hd => rfl); (case hg => rfl); (case hr => first | (go_simp; done) | (go_simp; rfl)); intro gb572 hg w122 hbox hb; have n0_ := Aside0.mk (Kd.R_below (rk HO_16) hb); have n1_ := Aside0.mk (Kd.R_below (rk HO_515002) hb); have n2_ := Aside0.mk (Kd.R_below (rk HO554) hb); have n3_ := Aside0.mk (Kd.R_below (rk HO557) hb); have n4_ := Aside0.mk (Kd.R_below (rk HO561) hb); have n5_ := Aside0.mk (Kd.R_below (rk HO570) hb); have n6_ := kl BK503 hb; have n7_ := kl BK514 hb; have n8_ := ls2 HB GE503 GE514 hb; have n9_ := Aside0.mk (hbox); have n10_ := Aside0.mk ((by rw [hg]; exact (below_size (lb2 HB GE503 GE514)) : w.heap.size ≤ gb572)); have n11_ := Aside0.mk ((by rw [hg]; exact (below_size (lb2 HB GE503 GE514)) : w.heap.size ≤ gb572)); have n12_ := kn BK503 hg; have n13_ := km BK503 hg; have n14_ := kn BK514 hg; have n15_ := km BK514 hg; clear HO_16; clear HO_515002; clear HO554; clear HO557; clear HO561; clear HO570; clear BK503; clear BK514; clear HB; have HO_16 := n0_; have HO_515002 := n1_; have HO554 := n2_; have HO557 := n3_; have HO561 := n4_; have HO570 := n5_; have BK503 := n6_; have BK514 := n7_; have HB := n8_; have BK572 := n9_; have GW572 := n10_; have GE572 := n11_; have NB503_572 := n12_; have NB572_503 := n13_; have NB514_572 := n14_; have NB572_514 := n15_; clear n0_ n1_ n2_ n3_ n4_ n5_ n6_ n7_ n8_ n9_ n10_ n11_ n12_ n13_ n14_ n15_; clear hb hbox hg; have hnb123 := NB572_503.out; have hnc123 := NB503_572.out; have hnb124 := NB572_514.out; have hnc124 := NB514_572.out; have hcz125_0 := bc BK572 0; have hcz125_1 := bc BK572 1; have hcz125_2 := bc BK572 2; have hfz125_0 := blk_frozen BK572.out 0; have hfz125_1 := blk_frozen BK572.out 1; have hfz125_2 := blk_frozen BK572.out 2; obtain ⟨Ao126, co126, eo126⟩ := Kd.R_slice HO570.out; subst eo126; obtain ⟨Ao127, co127, eo127⟩ := Kd.R_slice HO554.out; subst eo127))
                    go_ret
                    exact ⟨by first | rfl | (simp [errW_none, errW_some] <;> rfl) | (simp [*, errW_none, errW_some] <;> rfl), lb3 HB GE503 GE514 GE572⟩
                   ·rw [if_neg c108] at H
                    have c108b0 : ((t568.length : Int) == 0) = false := beq_eq_false_iff_ne.mpr c108
                    have c108b1 : ((t568.length : Int) != 0) = true := bne_iff_ne.mpr c108
                    have c108b2 : ¬ (t568 = []) := fun h_ => c108 (by rw [h_]; rfl)
                    exact absurd ((Option.some.inj H).trans HT_TRUE.out) (by simp)
                  ·rw [if_neg c107] at H
                   have c107b0 : ((wrap64 (x19_41 - a2)) == t505) = false := beq_eq_false_iff_ne.mpr c107
                   have c107b1 : ((wrap64 (x19_41 - a2)) != t505) = true := bne_iff_ne.mpr c107
                   exact absurd ((Option.some.inj H).trans HT_TRUE.out) (by simp)
                 ·rw [if_neg c106] at H
                  have c106b0 : (t562 == t564) = false := beq_eq_false_iff_ne.mpr c106
                  have c106b1 : (t562 != t564) = true := bne_iff_ne.mpr c106
                  exact absurd ((Option.some.inj H).trans HT_TRUE.out) (by simp)
                ·rw [if_neg c105] at H
                 have c105b0 : (t563 == (wrap64 (x19_41 - a2))) = false := beq_eq_false_iff_ne.mpr c105
                 have c105b1 : (t563 != (wrap64 (x19_41 - a2))) = true := bne_iff_ne.mpr c105
                 exact absurd ((Option.some.inj H).trans HT_TRUE.out) (by simp)
              ·rw [if_neg c103] at H
               have c103b0 : (t571 == 0) = false := beq_eq_false_iff_ne.mpr c103
               have c103b1 : (t571 != 0) = true := bne_iff_ne.mpr c103
               exact absurd ((Option.some.inj H).trans HT_TRUE.out) (by simp)
             ·rw [if_neg c102] at H
              have c102b0 : (t565 == 0) = false := beq_eq_false_iff_ne.mpr c102
              have c102b1 : (t565 != 0) = true := bne_iff_ne.mpr c102
              exact absurd ((Option.some.inj H).trans HT_TRUE.out) (by simp)
            ·rw [if_neg c101] at H
             have c101b0 : (t558 == 0) = false := beq_eq_false_iff_ne.mpr c101
             have c101b1 : (t558 != 0) = true := bne_iff_ne.mpr c101
             exact absurd ((Option.some.inj H).trans HT_TRUE.out) (by simp)
           ·rw [if_neg c97] at H
            exact absurd H (by simp)
        ·rw [if_neg c41] at H
         have c41b0 : (t520 == 0) = false := beq_eq_false_iff_ne.mpr c41
         have c41b1 : (t520 != 0) = true := bne_iff_ne.mpr c41
         exact absurd ((Option.some.inj H).trans HT_TRUE.out) (by simp)
       ·rw [if_neg c39] at H
        have c39b0 : (t513 == 0) = false := beq_eq_false_iff_ne.mpr c39
        have c39b1 : (t513 != 0) = true := bne_iff_ne.mpr c39
        by_cases c128 : t513 = 280
        ·rw [if_pos c128] at H
         have c128b0 : (t513 == 280) = true := beq_iff_eq.mpr c128
         have c128b1 : (t513 != 280) = false := bne_eq_false_iff_eq.mpr c128
         clear c128
         by_cases c129 : t516 = 0
         ·rw [if_pos c129] at H
          have c129b0 : (t516 == 0) = true := beq_iff_eq.mpr c129
          have c129b1 : (t516 != 0) = false := bne_eq_false_iff_eq.mpr c129
          clear c129
          obtain rfl := Option.some.inj H
          have hcz130_0 := bc BK503 0
          have hfz130_0 := blk_frozen BK503.out 0
          go_wp2_with (first | ((with_reducible refine gate_callee (f := 14) rfl ?_); refine goesL_ (some 84) rfl rfl Tryd.func14 (by kernel_rfl) rfl #[.agg #[.string (⟨#[49]⟩ : ByteArray), .int .i64 a1, .slice none 0 0], .agg #[.slice A0_0 l0_0.length c0_0], .int .i64 1, .int .i64 a2] rfl (by (try simp only [List.map_toArray, List.map_cons, List.map_nil]); first | done | rfl | (simp only [List.length_drop, List.length_take]; rfl)) ?_; (refine (prepaid_Reserve.calls (⟨#[49]⟩ : ByteArray) a1 _ _ ([] : List (S54)) _ _ l0_0 1 a2 t507 t508 t509 t512 t513 _ ?side1 ?side2 ?side3 ?side4 A37.out).mono ?_); (case side1 => exact Kd.C_nil _ _); (case side2 => exact Nat.le_refl _); (case side3 => repeat (first | exact (Kd.C_below HR0_0.out HB.out) | (with_reducible refine Kd.C_alloc ?_ _) | (with_reducible refine Kd.C_drewN ?_ _) | (with_reducible refine Kd.C_drew ?_))); (case side4 => exact HC0_0.out); rintro e w131 ⟨v510, rfl, ho0, hb⟩; refine ⟨_, rfl, ?_⟩; have n0_ := Aside0.mk (Kd.R_lower ho0 (below_size (lb1 HB GE503))); have n1_ := kl BK503 hb; have n2_ := ls1 HB GE503 hb; clear BK503; clear HB; have HO511 := n0_; have BK503 := n1_; have HB := n2_; clear n0_ n1_ n2_; (try clear hb); (try clear hb2); (try clear hk); (try clear hi); (try clear ho0)) | ((with_reducible refine gate_dst (N := 11) rfl ?_); (try (refine gate_guard (by rfl) ?_; dsimp only)); refine box_event ?hg (N := 11) ?hd (cs := #[.string (⟨#[]⟩ : ByteArray), .int .i64 0, .slice none 0 0]) (t := 31) ?hr ?_; (case hd => rfl); (case hg => rfl); (case hr => first | (go_simp; done) | (go_simp; rfl)); intro gb514 hg w132 hbox hb; have n0_ := Aside0.mk (Kd.R_below (rk HO511) hb); have n1_ := kl BK503 hb; have n2_ := ls1 HB GE503 hb; have n3_ := Aside0.mk (hbox); have n4_ := Aside0.mk ((by rw [hg]; exact (below_size (lb1 HB GE503)) : w.heap.size ≤ gb514)); have n5_ := Aside0.mk ((by rw [hg]; exact (below_size (lb1 HB GE503)) : w.heap.size ≤ gb514)); have n6_ := kn BK503 hg; have n7_ := km BK503 hg; clear HO511; clear BK503; clear HB; have HO511 := n0_; have BK503 := n1_; have HB := n2_; have BK514 := n3_; have GW514 := n4_; have GE514 := n5_; have NB503_514 := n6_; have NB514_503 := n7_; clear n0_ n1_ n2_ n3_ n4_ n5_ n6_ n7_; clear hb hbox hg; have hnb133 := NB514_503.out; have hnc133 := NB503_514.out; have hcz134_0 := bc BK514 0; have hcz134_1 := bc BK514 1; have hcz134_2 := bc BK514 2; have hfz134_0 := blk_frozen BK514.out 0; have hfz134_1 := blk_frozen BK514.out 1; have hfz134_2 := blk_frozen BK514.out 2; obtain ⟨Ao135, co135, eo135⟩ := Kd.R_slice HO511.out; subst eo135; have hcz136_0 := bc BK503 0; have hfz136_0 := blk_frozen BK503.out 0) | ((with_reducible refine gate_callee (f := 13) rfl ?_); refine goesL_ (some 92) rfl rfl Tryd.func13 (by kernel_rfl) rfl #[.agg #[.slice A0_0 l0_0.length c0_0], .int .i64 a2, .int .i64 a1, .int .i64 1] rfl (by (try simp only [List.map_toArray, List.map_cons, List.map_nil]); first | done | rfl | (simp only [List.length_drop, List.length_take]; rfl)) ?_; (with_reducible refine (tariff_Afford.calls _ _ l0_0 a2 a1 1 t515 t516 _ ?side1 ?side2 A38.out).mono ?_); (case side1 => exact Kd.C_below HR0_0.out (lb2 HB GE503 GE514)); (case side2 => exact HC0_0.out); rintro e w137 ⟨rfl, hb⟩; refine ⟨_, rfl, ?_⟩; have n0_ := Aside0.mk (Kd.R_below (by (with_reducible repeat (first | apply Kd.R_alloc | apply Kd.R_drewN | apply Kd.R_drew)); exact (Kd.R_mono (Kd.R_far (p := ⟨gb514, 2, none⟩) (Kd.R_far (p := ⟨gb514, 1, none⟩) (Kd.R_far (p := ⟨gb514, 0, none⟩) (Kd.R_types HO511.out BK514.out (by decide)) (fun _ hk => hk.2) (.string t507)) (fun _ hk => hk.2) (.int .i64 t508)) (fun _ hk => hk.2) (.slice Ao135 t509.length co135)) (fun _ h_ => h_.1))) hb); have n1_ := kl1 BK503 NB503_514 hb; have n2_ := Aside0.mk (blk_below (g := gb514) (o := .cells #[.string t507, .int .i64 t508, .slice Ao135 t509.length co135] 31 (0, 0)) (by (with_reducible repeat (first | refine blk_drewN ?_ _ | refine blk_drew ?_ | refine blk_alloc ?_ _)); refine blk_put (cs := #[.string t507, .int .i64 t508, .slice none 0 0]) ?_ 2 _ rfl; (with_reducible repeat (first | refine blk_drewN ?_ _ | refine blk_drew ?_ | refine blk_alloc ?_ _)); refine blk_put (cs := #[.string t507, .int .i64 0, .slice none 0 0]) ?_ 1 _ rfl; (with_reducible repeat (first | refine blk_drewN ?_ _ | refine blk_drew ?_ | refine blk_alloc ?_ _)); refine blk_put (cs := #[.string (⟨#[]⟩ : ByteArray), .int .i64 0, .slice none 0 0]) ?_ 0 _ rfl; (with_reducible repeat (first | refine blk_drewN ?_ _ | refine blk_drew ?_ | refine blk_alloc ?_ _)); exact BK514.out) hb); have n3_ := ls2 HB GE503 GE514 hb; clear HO511; clear BK503; clear BK514; clear HB; have HO511 := n0_; have BK503 := n1_; have BK514 := n2_; have HB := n3_; clear n0_ n1_ n2_ n3_; (try clear hb); (try clear hb2); (try clear hk); (try clear hi)))
          go_ret
          exact ⟨by first | rfl | (simp [errW_none, errW_some] <;> rfl) | (simp [*, errW_none, errW_some] <;> rfl), lb2 HB GE503 GE514⟩
         ·rw [if_neg c129] at H
          have c129b0 : (t516 == 0) = false := beq_eq_false_iff_ne.mpr c129
          have c129b1 : (t516 != 0) = true := bne_iff_ne.mpr c129
          exact absurd ((Option.some.inj H).trans HT_TRUE.out) (by simp)
        ·rw [if_neg c128] at H
         have c128b0 : (t513 == 280) = false := beq_eq_false_iff_ne.mpr c128
         have c128b1 : (t513 != 280) = true := bne_iff_ne.mpr c128
         exact absurd ((Option.some.inj H).trans HT_TRUE.out) (by simp)

end Go.Proofs.YtldpacphackdjaaDoor.Print
