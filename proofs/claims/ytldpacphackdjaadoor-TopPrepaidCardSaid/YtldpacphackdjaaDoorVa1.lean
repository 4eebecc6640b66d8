/- Parts of the proofs of layer 28's laws, joined in one file by a program of the session; each part begins with its own sentence. -/
import Derived.Test.YtldpacphackdjaaDoorVaK0
import Derived.Test.YtldpacphackdjaaDoorVaSq
/- That the call of function 34 (tariff_within) answers what the Lean function of the same name answers, at every input at which that one answers. (Written by a program of the session, which drives the kit's printer.) -/
namespace Go.Proofs.YtldpacphackdjaaDoor.Print
open Go.RowKit Go.Proofs.YtldpacphackdjaaDoorW.PrintWords Go.Proofs.YtldpacphackdjaaDoorW.PrintLast Go.Proofs.YtldpacphackdjaaDoorW.PrintMore
attribute [local go_sem] max2_int min2_int max_two min_two max_three min_three max_four min_four   -- for this text's walks alone
set_option linter.unusedVariables false
set_option linter.unusedSimpArgs false

/-! ### tariff_within: function 34 -/
def tariff_within.f (a0 : Int) (a1 : Int) (a2 : Int) : Option (Bool) := if a1 ≤ a0 then (some (decide (a0 ≤ a2))) else (some false)
set_option maxHeartbeats 8000000 in
set_option maxRecDepth 100000 in
theorem tariff_within.calls (a0 : Int) (a1 : Int) (a2 : Int) (r : Bool) (w : World) (h : tariff_within.f a0 a1 a2 = some r) :
  Calls Tryd.prog 34 #[.int .i64 a0, .int .i64 a1, .int .i64 a2] w fun e w' => e = .returned (.bool r) ∧ Drawn0 w w' := by
 have H : (if a1 ≤ a0 then (some (decide (a0 ≤ a2))) else (some false)) = some r := h
 clear h
 by_cases c4 : a1 ≤ a0
 ·rw [if_pos c4] at H
  have c4b0 : decide (a1 ≤ a0) = true := decide_eq_true c4
  clear c4
  obtain rfl := Option.some.inj H
  go_enter Tryd.func34, Tryd.ntmps34
  go_wp2
  go_ret
  exact ⟨by first | rfl | (simp; done) | (simp [*]; done), by repeat (first | exact Drawn0.refl _ | apply Drawn0.step)⟩
 ·rw [if_neg c4] at H
  have c4b0 : decide (a1 ≤ a0) = false := decide_eq_false c4
  clear c4
  obtain rfl := Option.some.inj H
  go_enter Tryd.func34, Tryd.ntmps34
  go_wp2
  go_ret
  exact ⟨by first | rfl | (simp; done) | (simp [*]; done), by repeat (first | exact Drawn0.refl _ | apply Drawn0.step)⟩

end Go.Proofs.YtldpacphackdjaaDoor.Print
/- That the call of function 12 (tariff_Check) answers what the Lean function of the same name answers, at every input at which that one answers. (Written by a program of the session, which drives the kit's printer.) -/
namespace Go.Proofs.YtldpacphackdjaaDoor.Print
open Go.RowKit Go.Proofs.YtldpacphackdjaaDoorW.PrintWords Go.Proofs.YtldpacphackdjaaDoorW.PrintLast Go.Proofs.YtldpacphackdjaaDoorW.PrintMore
attribute [local go_sem] max2_int min2_int max_two min_two max_three min_three max_four min_four   -- for this text's walks alone
set_option linter.unusedVariables false
set_option linter.unusedSimpArgs false

/-! ### tariff_Check: function 12 -/
def tariff_Check.l0 : Nat → Int → List (S70) → Int → Int → Option (Int)
 | 0, _, _, _, _ => none
 | k + 1, x3, x12, x13, x14 => if x14 < x13 then (if 0 ≤ x14 then (if x14 < (x12.length : Int) then (if x14 = 0 then (if ((rd_T70 x12 x14).f0) = 0 then ((tariff_within.f ((rd_T70 x12 x14).f0) x3 86399).bind fun t105 => (if t105 = true then ((tariff_within.f ((rd_T70 x12 x14).f1) 0 1000000).bind fun t106 => (if t106 = true then (tariff_Check.l0 k (wrap64 (((rd_T70 x12 x14).f0) + 1)) x12 x13 (wrap64 (x14 + 1))) else (some 260))) else (some 260))) else (some 260)) else ((tariff_within.f ((rd_T70 x12 x14).f0) x3 86399).bind fun t107 => (if t107 = true then ((tariff_within.f ((rd_T70 x12 x14).f1) 0 1000000).bind fun t108 => (if t108 = true then (tariff_Check.l0 k (wrap64 (((rd_T70 x12 x14).f0) + 1)) x12 x13 (wrap64 (x14 + 1))) else (some 260))) else (some 260)))) else (none)) else (none)) else (some 0)
def tariff_Check.f (k : Nat) (l0_0 : List (S70)) : Option (Int) := (tariff_within.f (l0_0.length : Int) 1 24).bind fun t102 => (if t102 = true then (tariff_Check.l0 k 0 l0_0 (l0_0.length : Int) 0) else (some 260))
set_option maxHeartbeats 8000000 in
set_option maxRecDepth 100000 in
theorem tariff_Check.calls (k : Nat) (A0_0 : Option Addr) (c0_0 : Nat) (l0_0 : List (S70)) (r : Int) (w : World) (hr0_0 : Kd.C k70 w A0_0 l0_0.length l0_0) (hc0_0 : l0_0.length ≤ c0_0) (h : tariff_Check.f k l0_0 = some r) :
  Calls Tryd.prog 12 #[.agg #[.slice A0_0 l0_0.length c0_0]] w fun e w' => e = .returned (.int .i64 r) ∧ Below w.heap.size w w' := by
 have hu24 := Tryd.underlying24
 have hu70 := Tryd.underlying70
 have HR0_0 := Aside0.mk hr0_0
 have HC0_0 := Aside0.mk hc0_0
 clear hr0_0 hc0_0
 have HB := Aside0.mk (Below.refl w.heap.size w)
 have H : ((tariff_within.f (l0_0.length : Int) 1 24).bind fun t102 => (if t102 = true then (tariff_Check.l0 k 0 l0_0 (l0_0.length : Int) 0) else (some 260))) = some r := h
 clear h
 replace H := Option.bind_eq_some_iff.mp H
 obtain ⟨t102, A20, H⟩ := H
 replace H : (if t102 = true then (tariff_Check.l0 k 0 l0_0 (l0_0.length : Int) 0) else (some 260)) = some r := H
 have A2 := Aside0.mk A20
 clear A20
 by_cases c3 : t102 = true
 ·subst c3
  have H1 : (tariff_Check.l0 k 0 l0_0 (l0_0.length : Int) 0) = some r := by rw [if_pos rfl] at H; exact H
  clear H
  have H := H1
  clear H1
  have H' := Aside0.mk H
  clear H
  go_enter Tryd.func12, Tryd.ntmps12
  go_wp2_with (first | ((with_reducible refine gate_dst (N := 1) rfl ?_); refine box_event ?hg (N := 1) ?hd (cs := #[.slice A0_0 l0_0.length c0_0]) (t := 24) ?hr ?_; (case hd => rfl); (case hg => rfl); (case hr => first | (go_simp; done) | (go_simp; rfl)); intro gb101 hg w4 hbox hb; have n0_ := ls0 HB hb; have n1_ := Aside0.mk (hbox); have n2_ := Aside0.mk ((by rw [hg]; exact (below_size (lb0 HB)) : w.heap.size ≤ gb101)); have n3_ := Aside0.mk ((by rw [hg]; exact (below_size (lb0 HB)) : w.heap.size ≤ gb101)); clear HB; have HB := n0_; have BK101 := n1_; have GW101 := n2_; have GE101 := n3_; clear n0_ n1_ n2_ n3_; clear hb hbox hg; have hcz5_0 := bc BK101 0; have hfz5_0 := blk_frozen BK101.out 0) | ((with_reducible refine gate_callee (f := 34) rfl ?_); refine goesL_ (some 9) rfl rfl Tryd.func34 (by kernel_rfl) rfl #[.int .i64 (l0_0.length : Int), .int .i64 1, .int .i64 24] rfl (by (try simp only [List.map_toArray, List.map_cons, List.map_nil]); first | done | rfl | (simp only [List.length_drop, List.length_take]; rfl)) ?_; (with_reducible refine (tariff_within.calls (l0_0.length : Int) 1 24 true _ A2.out).mono ?_); rintro e w' ⟨rfl, ⟨nd, rfl⟩⟩; refine ⟨_, rfl, ?_⟩))
  go_loopg [3, 14] k (fun kq v3 v14 w' => ∃ (x3_1 : Int) (x14_1 : Int), v3 = .int .i64 x3_1 ∧ v14 = .int .i64 x14_1 ∧ Aside0 (tariff_Check.l0 kq x3_1 l0_0 (l0_0.length : Int) x14_1 = some r) ∧ Aside0 (kq ≤ k) ∧ Aside0 (w'.heap[gb101]? = some (.cells #[(.slice A0_0 l0_0.length c0_0)] 24 (0, 0))) ∧ Aside0 (Below w.heap.size w w'))
  case atStart => exact ⟨(0), (0), (by first | rfl | (simp; done) | (simp [*]; done)), (by first | rfl | (simp; done) | (simp [*]; done)), H', ⟨Nat.le_refl _⟩, ⟨kb BK101⟩, ⟨lb1 HB GE101⟩⟩
  case round =>
   clear H'
   try clear c1; try clear p2; try clear c3; try clear hcz5_0; try clear hfz5_0
   obtain ⟨x3_1, x14_1, rfl, rfl, HA, HK1, BK101, HB⟩ := hrel
   cases gk with
   | zero => exact absurd HA.out (by simp [tariff_Check.l0])
   | succ k1 =>
    have H := HA.out
    clear HA
    simp only [tariff_Check.l0] at H
    by_cases c6 : x14_1 < (l0_0.length : Int)
    ·rw [if_pos c6] at H
     have c6b0 : decide (x14_1 < (l0_0.length : Int)) = true := decide_eq_true c6
     clear c6
     by_cases c7 : 0 ≤ x14_1
     ·rw [if_pos c7] at H
      have c7b0 : decide (0 ≤ x14_1) = true := decide_eq_true c7
      clear c7
      by_cases c8 : x14_1 < (l0_0.length : Int)
      ·rw [if_pos c8] at H
       have c8b0 : decide (x14_1 < (l0_0.length : Int)) = true := decide_eq_true c8
       clear c8
       by_cases c9 : x14_1 = 0
       ·rw [if_pos c9] at H
        have c9b0 : (x14_1 == 0) = true := beq_iff_eq.mpr c9
        have c9b1 : (x14_1 != 0) = false := bne_eq_false_iff_eq.mpr c9
        clear c9
        by_cases c10 : ((rd_T70 l0_0 x14_1).f0) = 0
        ·rw [if_pos c10] at H
         have c10b0 : (((rd_T70 l0_0 x14_1).f0) == 0) = true := beq_iff_eq.mpr c10
         have c10b1 : (((rd_T70 l0_0 x14_1).f0) != 0) = false := bne_eq_false_iff_eq.mpr c10
         clear c10
         replace H := Option.bind_eq_some_iff.mp H
         obtain ⟨t105, A110, H⟩ := H
         replace H : (if t105 = true then ((tariff_within.f ((rd_T70 l0_0 x14_1).f1) 0 1000000).bind fun t106 => (if t106 = true then (tariff_Check.l0 k1 (wrap64 (((rd_T70 l0_0 x14_1).f0) + 1)) l0_0 (l0_0.length : Int) (wrap64 (x14_1 + 1))) else (some 260))) else (some 260)) = some r := H
         have A11 := Aside0.mk A110
         clear A110
         by_cases c12 : t105 = true
         ·subst c12
          have H1 : ((tariff_within.f ((rd_T70 l0_0 x14_1).f1) 0 1000000).bind fun t106 => (if t106 = true then (tariff_Check.l0 k1 (wrap64 (((rd_T70 l0_0 x14_1).f0) + 1)) l0_0 (l0_0.length : Int) (wrap64 (x14_1 + 1))) else (some 260))) = some r := by rw [if_pos rfl] at H; exact H
          clear H
          have H := H1
          clear H1
          replace H := Option.bind_eq_some_iff.mp H
          obtain ⟨t106, A130, H⟩ := H
          replace H : (if t106 = true then (tariff_Check.l0 k1 (wrap64 (((rd_T70 l0_0 x14_1).f0) + 1)) l0_0 (l0_0.length : Int) (wrap64 (x14_1 + 1))) else (some 260)) = some r := H
          have A13 := Aside0.mk A130
          clear A130
          by_cases c14 : t106 = true
          ·subst c14
           have H1 : (tariff_Check.l0 k1 (wrap64 (((rd_T70 l0_0 x14_1).f0) + 1)) l0_0 (l0_0.length : Int) (wrap64 (x14_1 + 1))) = some r := by rw [if_pos rfl] at H; exact H
           clear H
           have H := H1
           clear H1
           have H' := Aside0.mk H
           clear H
           have p103 : 0 ≤ (x14_1 : Int) := of_decide_eq_true (by first | (with_reducible assumption) | assumption)
           have q103 : x14_1 < (l0_0.length : Int) := of_decide_eq_true (by first | (with_reducible assumption) | assumption)
           obtain ⟨ad103, e103, hx103_0, hx103_1⟩ := at_T70 HR0_0.out x14_1 p103 q103
           cases e103
           replace hx103_0 := (HB.out.cell (World.block_lt_of_cell? w _ hx103_0)).trans hx103_0
           replace hx103_1 := (HB.out.cell (World.block_lt_of_cell? w _ hx103_1)).trans hx103_1
           replace p103 := eq_true p103
           replace q103 := eq_true q103
           go_wp2_with (first | ((with_reducible refine gate_dst (N := 5) rfl ?_); refine box_event ?hg (N := 5) ?hd (cs := #[.int .i64 0, .int .i64 0]) (t := 70) ?hr ?_; (case hd => rfl); (case hg => rfl); (case hr => first | (go_simp; done) | (go_simp; rfl)); intro gb104 hg w15 hbox hb; have n0_ := kl BK101 hb; have n1_ := ls1 HB GE101 hb; have n2_ := Aside0.mk (hbox); have n3_ := Aside0.mk ((by rw [hg]; exact (below_size (lb1 HB GE101)) : w.heap.size ≤ gb104)); have n4_ := Aside0.mk ((by rw [hg]; exact (below_size (lb1 HB GE101)) : w.heap.size ≤ gb104)); have n5_ := kn BK101 hg; have n6_ := km BK101 hg; clear BK101; clear HB; have BK101 := n0_; have HB := n1_; have BK104 := n2_; have GW104 := n3_; have GE104 := n4_; have NB101_104 := n5_; have NB104_101 := n6_; clear n0_ n1_ n2_ n3_ n4_ n5_ n6_; clear hb hbox hg; have hnb16 := NB104_101.out; have hnc16 := NB101_104.out; have hcz17_0 := bc BK104 0; have hcz17_1 := bc BK104 1; have hfz17_0 := blk_frozen BK104.out 0; have hfz17_1 := blk_frozen BK104.out 1) | (go_at_call 34; (with_reducible refine (tariff_within.calls ((rd_T70 l0_0 x14_1).f0) x3_1 86399 true _ A11.out).mono ?_); rintro e w' ⟨rfl, ⟨nd, rfl⟩⟩) | (go_at_call 34; (with_reducible refine (tariff_within.calls ((rd_T70 l0_0 x14_1).f1) 0 1000000 true _ A13.out).mono ?_); rintro e w' ⟨rfl, ⟨nd, rfl⟩⟩))
           go_roundg k1
           case measure => have := HK1.out; omega
           case rel => exact ⟨(wrap64 (((rd_T70 l0_0 x14_1).f0) + 1)), (wrap64 (x14_1 + 1)), (by first | rfl | (simp; done) | (simp [*]; done)), (by first | rfl | (simp; done) | (simp [*]; done)), H', ⟨by have := HK1.out; omega⟩, ⟨kf1 BK101 NB101_104⟩, ⟨lb2 HB GE101 GE104⟩⟩
          ·replace c14 := Bool.eq_false_iff.mpr c14
           subst c14
           have H1 : (some 260) = some r := by rw [if_neg (show ¬ (false = true) by decide)] at H; exact H
           clear H
           have H := H1
           clear H1
           obtain rfl := Option.some.inj H
           have p103 : 0 ≤ (x14_1 : Int) := of_decide_eq_true (by first | (with_reducible assumption) | assumption)
           have q103 : x14_1 < (l0_0.length : Int) := of_decide_eq_true (by first | (with_reducible assumption) | assumption)
           obtain ⟨ad103, e103, hx103_0, hx103_1⟩ := at_T70 HR0_0.out x14_1 p103 q103
           cases e103
           replace hx103_0 := (HB.out.cell (World.block_lt_of_cell? w _ hx103_0)).trans hx103_0
           replace hx103_1 := (HB.out.cell (World.block_lt_of_cell? w _ hx103_1)).trans hx103_1
           replace p103 := eq_true p103
           replace q103 := eq_true q103
           go_wp2_with (first | ((with_reducible refine gate_dst (N := 5) rfl ?_); refine box_event ?hg (N := 5) ?hd (cs := #[.int .i64 0, .int .i64 0]) (t := 70) ?hr ?_; (case hd => rfl); (case hg => rfl); (case hr => first | (go_simp; done) | (go_simp; rfl)); intro gb104 hg w18 hbox hb; have n0_ := kl BK101 hb; have n1_ := ls1 HB GE101 hb; have n2_ := Aside0.mk (hbox); have n3_ := Aside0.mk ((by rw [hg]; exact (below_size (lb1 HB GE101)) : w.heap.size ≤ gb104)); have n4_ := Aside0.mk ((by rw [hg]; exact (below_size (lb1 HB GE101)) : w.heap.size ≤ gb104)); have n5_ := kn BK101 hg; have n6_ := km BK101 hg; clear BK101; clear HB; have BK101 := n0_; have HB := n1_; have BK104 := n2_; have GW104 := n3_; have GE104 := n4_; have NB101_104 := n5_; have NB104_101 := n6_; clear n0_ n1_ n2_ n3_ n4_ n5_ n6_; clear hb hbox hg; have hnb19 := NB104_101.out; have hnc19 := NB101_104.out; have hcz20_0 := bc BK104 0; have hcz20_1 := bc BK104 1; have hfz20_0 := blk_frozen BK104.out 0; have hfz20_1 := blk_frozen BK104.out 1) | (go_at_call 34; (with_reducible refine (tariff_within.calls ((rd_T70 l0_0 x14_1).f0) x3_1 86399 true _ A11.out).mono ?_); rintro e w' ⟨rfl, ⟨nd, rfl⟩⟩) | (go_at_call 34; (with_reducible refine (tariff_within.calls ((rd_T70 l0_0 x14_1).f1) 0 1000000 false _ A13.out).mono ?_); rintro e w' ⟨rfl, ⟨nd, rfl⟩⟩))
           go_ret
           exact ⟨by first | rfl | (simp [errW_none, errW_some] <;> rfl) | (simp [*, errW_none, errW_some] <;> rfl), lb2 HB GE101 GE104⟩
         ·replace c12 := Bool.eq_false_iff.mpr c12
          subst c12
          have H1 : (some 260) = some r := by rw [if_neg (show ¬ (false = true) by decide)] at H; exact H
          clear H
          have H := H1
          clear H1
          obtain rfl := Option.some.inj H
          have p103 : 0 ≤ (x14_1 : Int) := of_decide_eq_true (by first | (with_reducible assumption) | assumption)
          have q103 : x14_1 < (l0_0.length : Int) := of_decide_eq_true (by first | (with_reducible assumption) | assumption)
          obtain ⟨ad103, e103, hx103_0, hx103_1⟩ := at_T70 HR0_0.out x14_1 p103 q103
          cases e103
          replace hx103_0 := (HB.out.cell (World.block_lt_of_cell? w _ hx103_0)).trans hx103_0
          replace hx103_1 := (HB.out.cell (World.block_lt_of_cell? w _ hx103_1)).trans hx103_1
          replace p103 := eq_true p103
          replace q103 := eq_true q103
          go_wp2_with (first | ((with_reducible refine gate_dst (N := 5) rfl ?_); refine box_event ?hg (N := 5) ?hd (cs := #[.int .i64 0, .int .i64 0]) (t := 70) ?hr ?_; (case hd => rfl); (case hg => rfl); (case hr => first | (go_simp; done) | (go_simp; rfl)); intro gb104 hg w21 hbox hb; have n0_ := kl BK101 hb; have n1_ := ls1 HB GE101 hb; have n2_ := Aside0.mk (hbox); have n3_ := Aside0.mk ((by rw [hg]; exact (below_size (lb1 HB GE101)) : w.heap.size ≤ gb104)); have n4_ := Aside0.mk ((by rw [hg]; exact (below_size (lb1 HB GE101)) : w.heap.size ≤ gb104)); have n5_ := kn BK101 hg; have n6_ := km BK101 hg; clear BK101; clear HB; have BK101 := n0_; have HB := n1_; have BK104 := n2_; have GW104 := n3_; have GE104 := n4_; have NB101_104 := n5_; have NB104_101 := n6_; clear n0_ n1_ n2_ n3_ n4_ n5_ n6_; clear hb hbox hg; have hnb22 := NB104_101.out; have hnc22 := NB101_104.out; have hcz23_0 := bc BK104 0; have hcz23_1 := bc BK104 1; have hfz23_0 := blk_frozen BK104.out 0; have hfz23_1 := blk_frozen BK104.out 1) | (go_at_call 34; (with_reducible refine (tariff_within.calls ((rd_T70 l0_0 x14_1).f0) x3_1 86399 false _ A11.out).mono ?_); rintro e w' ⟨rfl, ⟨nd, rfl⟩⟩))
          go_ret
          exact ⟨by first | rfl | (simp [errW_none, errW_some] <;> rfl) | (simp [*, errW_none, errW_some] <;> rfl), lb2 HB GE101 GE104⟩
        ·rw [if_neg c10] at H
         have c10b0 : (((rd_T70 l0_0 x14_1).f0) == 0) = false := beq_eq_false_iff_ne.mpr c10
         have c10b1 : (((rd_T70 l0_0 x14_1).f0) != 0) = true := bne_iff_ne.mpr c10
         obtain rfl := Option.some.inj H
         have p103 : 0 ≤ (x14_1 : Int) := of_decide_eq_true (by first | (with_reducible assumption) | assumption)
         have q103 : x14_1 < (l0_0.length : Int) := of_decide_eq_true (by first | (with_reducible assumption) | assumption)
         obtain ⟨ad103, e103, hx103_0, hx103_1⟩ := at_T70 HR0_0.out x14_1 p103 q103
         cases e103
         replace hx103_0 := (HB.out.cell (World.block_lt_of_cell? w _ hx103_0)).trans hx103_0
         replace hx103_1 := (HB.out.cell (World.block_lt_of_cell? w _ hx103_1)).trans hx103_1
         replace p103 := eq_true p103
         replace q103 := eq_true q103
         go_wp2_with (first | ((with_reducible refine gate_dst (N := 5) rfl ?_); refine box_event ?hg (N := 5) ?hd (cs := #[.int .i64 0, .int .i64 0]) (t := 70) ?hr ?_; (case hd => rfl); (case hg => rfl); (case hr => first | (go_simp; done) | (go_simp; rfl)); intro gb104 hg w24 hbox hb; have n0_ := kl BK101 hb; have n1_ := ls1 HB GE101 hb; have n2_ := Aside0.mk (hbox); have n3_ := Aside0.mk ((by rw [hg]; exact (below_size (lb1 HB GE101)) : w.heap.size ≤ gb104)); have n4_ := Aside0.mk ((by rw [hg]; exact (below_size (lb1 HB GE101)) : w.heap.size ≤ gb104)); have n5_ := kn BK101 hg; have n6_ := km BK101 hg; clear BK101; clear HB; have BK101 := n0_; have HB := n1_; have BK104 := n2_; have GW104 := n3_; have GE104 := n4_; have NB101_104 := n5_; have NB104_101 := n6_; clear n0_ n1_ n2_ n3_ n4_ n5_ n6_; clear hb hbox hg; have hnb25 := NB104_101.out; have hnc25 := NB101_104.out; have hcz26_0 := bc BK104 0; have hcz26_1 := bc BK104 1; have hfz26_0 := blk_frozen BK104.out 0; have hfz26_1 := blk_frozen BK104.out 1))
         go_ret
         exact ⟨by first | rfl | (simp [errW_none, errW_some] <;> rfl) | (simp [*, errW_none, errW_some] <;> rfl), lb2 HB GE101 GE104⟩
       ·rw [if_neg c9] at H
        have c9b0 : (x14_1 == 0) = false := beq_eq_false_iff_ne.mpr c9
        have c9b1 : (x14_1 != 0) = true := bne_iff_ne.mpr c9
        replace H := Option.bind_eq_some_iff.mp H
        obtain ⟨t107, A270, H⟩ := H
        replace H : (if t107 = true then ((tariff_within.f ((rd_T70 l0_0 x14_1).f1) 0 1000000).bind fun t108 => (if t108 = true then (tariff_Check.l0 k1 (wrap64 (((rd_T70 l0_0 x14_1).f0) + 1)) l0_0 (l0_0.length : Int) (wrap64 (x14_1 + 1))) else (some 260))) else (some 260)) = some r := H
        have A27 := Aside0.mk A270
        clear A270
        by_cases c28 : t107 = true
        ·subst c28
         have H1 : ((tariff_within.f ((rd_T70 l0_0 x14_1).f1) 0 1000000).bind fun t108 => (if t108 = true then (tariff_Check.l0 k1 (wrap64 (((rd_T70 l0_0 x14_1).f0) + 1)) l0_0 (l0_0.length : Int) (wrap64 (x14_1 + 1))) else (some 260))) = some r := by rw [if_pos rfl] at H; exact H
         clear H
         have H := H1
         clear H1
         replace H := Option.bind_eq_some_iff.mp H
         obtain ⟨t108, A290, H⟩ := H
         replace H : (if t108 = true then (tariff_Check.l0 k1 (wrap64 (((rd_T70 l0_0 x14_1).f0) + 1)) l0_0 (l0_0.length : Int) (wrap64 (x14_1 + 1))) else (some 260)) = some r := H
         have A29 := Aside0.mk A290
         clear A290
         by_cases c30 : t108 = true
         ·subst c30
          have H1 : (tariff_Check.l0 k1 (wrap64 (((rd_T70 l0_0 x14_1).f0) + 1)) l0_0 (l0_0.length : Int) (wrap64 (x14_1 + 1))) = some r := by rw [if_pos rfl] at H; exact H
          clear H
          have H := H1
          clear H1
          have H' := Aside0.mk H
          clear H
          have p103 : 0 ≤ (x14_1 : Int) := of_decide_eq_true (by first | (with_reducible assumption) | assumption)
          have q103 : x14_1 < (l0_0.length : Int) := of_decide_eq_true (by first | (with_reducible assumption) | assumption)
          obtain ⟨ad103, e103, hx103_0, hx103_1⟩ := at_T70 HR0_0.out x14_1 p103 q103
          cases e103
          replace hx103_0 := (HB.out.cell (World.block_lt_of_cell? w _ hx103_0)).trans hx103_0
          replace hx103_1 := (HB.out.cell (World.block_lt_of_cell? w _ hx103_1)).trans hx103_1
          replace p103 := eq_true p103
          replace q103 := eq_true q103
          go_wp2_with (first | ((with_reducible refine gate_dst (N := 5) rfl ?_); refine box_event ?hg (N := 5) ?hd (cs := #[.int .i64 0, .int .i64 0]) (t := 70) ?hr ?_; (case hd => rfl); (case hg => rfl); (case hr => first | (go_simp; done) | (go_simp; rfl)); intro gb104 hg w31 hbox hb; have n0_ := kl BK101 hb; have n1_ := ls1 HB GE101 hb; have n2_ := Aside0.mk (hbox); have n3_ := Aside0.mk ((by rw [hg]; exact (below_size (lb1 HB GE101)) : w.heap.size ≤ gb104)); have n4_ := Aside0.mk ((by rw [hg]; exact (below_size (lb1 HB GE101)) : w.heap.size ≤ gb104)); have n5_ := kn BK101 hg; have n6_ := km BK101 hg; clear BK101; clear HB; have BK101 := n0_; have HB := n1_; have BK104 := n2_; have GW104 := n3_; have GE104 := n4_; have NB101_104 := n5_; have NB104_101 := n6_; clear n0_ n1_ n2_ n3_ n4_ n5_ n6_; clear hb hbox hg; have hnb32 := NB104_101.out; have hnc32 := NB101_104.out; have hcz33_0 := bc BK104 0; have hcz33_1 := bc BK104 1; have hfz33_0 := blk_frozen BK104.out 0; have hfz33_1 := blk_frozen BK104.out 1) | (go_at_call 34; (with_reducible refine (tariff_within.calls ((rd_T70 l0_0 x14_1).f0) x3_1 86399 true _ A27.out).mono ?_); rintro e w' ⟨rfl, ⟨nd, rfl⟩⟩) | (go_at_call 34; (with_reducible refine (tariff_within.calls ((rd_T70 l0_0 x14_1).f1) 0 1000000 true _ A29.out).mono ?_); rintro e w' ⟨rfl, ⟨nd, rfl⟩⟩))
          go_roundg k1
          case measure => have := HK1.out; omega
          case rel => exact ⟨(wrap64 (((rd_T70 l0_0 x14_1).f0) + 1)), (wrap64 (x14_1 + 1)), (by first | rfl | (simp; done) | (simp [*]; done)), (by first | rfl | (simp; done) | (simp [*]; done)), H', ⟨by have := HK1.out; omega⟩, ⟨kf1 BK101 NB101_104⟩, ⟨lb2 HB GE101 GE104⟩⟩
         ·replace c30 := Bool.eq_false_iff.mpr c30
          subst c30
          have H1 : (some 260) = some r := by rw [if_neg (show ¬ (false = true) by decide)] at H; exact H
          clear H
          have H := H1
          clear H1
          obtain rfl := Option.some.inj H
          have p103 : 0 ≤ (x14_1 : Int) := of_decide_eq_true (by first | (with_reducible assumption) | assumption)
          have q103 : x14_1 < (l0_0.length : Int) := of_decide_eq_true (by first | (with_reducible assumption) | assumption)
          obtain ⟨ad103, e103, hx103_0, hx103_1⟩ := at_T70 HR0_0.out x14_1 p103 q103
          cases e103
          replace hx103_0 := (HB.out.cell (World.block_lt_of_cell? w _ hx103_0)).trans hx103_0
          replace hx103_1 := (HB.out.cell (World.block_lt_of_cell? w _ hx103_1)).trans hx103_1
          replace p103 := eq_true p103
          replace q103 := eq_true q103
          go_wp2_with (first | ((with_reducible refine gate_dst (N := 5) rfl ?_); refine box_event ?hg (N := 5) ?hd (cs := #[.int .i64 0, .int .i64 0]) (t := 70) ?hr ?_; (case hd => rfl); (case hg => rfl); (case hr => first | (go_simp; done) | (go_simp; rfl)); intro gb104 hg w34 hbox hb; have n0_ := kl BK101 hb; have n1_ := ls1 HB GE101 hb; have n2_ := Aside0.mk (hbox); have n3_ := Aside0.mk ((by rw [hg]; exact (below_size (lb1 HB GE101)) : w.heap.size ≤ gb104)); have n4_ := Aside0.mk ((by rw [hg]; exact (below_size (lb1 HB GE101)) : w.heap.size ≤ gb104)); have n5_ := kn BK101 hg; have n6_ := km BK101 hg; clear BK101; clear HB; have BK101 := n0_; have HB := n1_; have BK104 := n2_; have GW104 := n3_; have GE104 := n4_; have NB101_104 := n5_; have NB104_101 := n6_; clear n0_ n1_ n2_ n3_ n4_ n5_ n6_; clear hb hbox hg; have hnb35 := NB104_101.out; have hnc35 := NB101_104.out; have hcz36_0 := bc BK104 0; have hcz36_1 := bc BK104 1; have hfz36_0 := blk_frozen BK104.out 0; have hfz36_1 := blk_frozen BK104.out 1) | (go_at_call 34; (with_reducible refine (tariff_within.calls ((rd_T70 l0_0 x14_1).f0) x3_1 86399 true _ A27.out).mono ?_); rintro e w' ⟨rfl, ⟨nd, rfl⟩⟩) | (go_at_call 34; (with_reducible refine (tariff_within.calls ((rd_T70 l0_0 x14_1).f1) 0 1000000 false _ A29.out).mono ?_); rintro e w' ⟨rfl, ⟨nd, rfl⟩⟩))
          go_ret
          exact ⟨by first | rfl | (simp [errW_none, errW_some] <;> rfl) | (simp [*, errW_none, errW_some] <;> rfl), lb2 HB GE101 GE104⟩
        ·replace c28 := Bool.eq_false_iff.mpr c28
         subst c28
         have H1 : (some 260) = some r := by rw [if_neg (show ¬ (false = true) by decide)] at H; exact H
         clear H
         have H := H1
         clear H1
         obtain rfl := Option.some.inj H
         have p103 : 0 ≤ (x14_1 : Int) := of_decide_eq_true (by first | (with_reducible assumption) | assumption)
         have q103 : x14_1 < (l0_0.length : Int) := of_decide_eq_true (by first | (with_reducible assumption) | assumption)
         obtain ⟨ad103, e103, hx103_0, hx103_1⟩ := at_T70 HR0_0.out x14_1 p103 q103
         cases e103
         replace hx103_0 := (HB.out.cell (World.block_lt_of_cell? w _ hx103_0)).trans hx103_0
         replace hx103_1 := (HB.out.cell (World.block_lt_of_cell? w _ hx103_1)).trans hx103_1
         replace p103 := eq_true p103
         replace q103 := eq_true q103
         go_wp2_with (first | ((with_reducible refine gate_dst (N := 5) rfl ?_); refine box_event ?hg (N := 5) ?hd (cs := #[.int .i64 0, .int .i64 0]) (t := 70) ?hr ?_; (case hd => rfl); (case hg => rfl); (case hr => first | (go_simp; done) | (go_simp; rfl)); intro gb104 hg w37 hbox hb; have n0_ := kl BK101 hb; have n1_ := ls1 HB GE101 hb; have n2_ := Aside0.mk (hbox); have n3_ := Aside0.mk ((by rw [hg]; exact (below_size (lb1 HB GE101)) : w.heap.size ≤ gb104)); have n4_ := Aside0.mk ((by rw [hg]; exact (below_size (lb1 HB GE101)) : w.heap.size ≤ gb104)); have n5_ := kn BK101 hg; have n6_ := km BK101 hg; clear BK101; clear HB; have BK101 := n0_; have HB := n1_; have BK104 := n2_; have GW104 := n3_; have GE104 := n4_; have NB101_104 := n5_; have NB104_101 := n6_; clear n0_ n1_ n2_ n3_ n4_ n5_ n6_; clear hb hbox hg; have hnb38 := NB104_101.out; have hnc38 := NB101_104.out; have hcz39_0 := bc BK104 0; have hcz39_1 := bc BK104 1; have hfz39_0 := blk_frozen BK104.out 0; have hfz39_1 := blk_frozen BK104.out 1) | (go_at_call 34; (with_reducible refine (tariff_within.calls ((rd_T70 l0_0 x14_1).f0) x3_1 86399 false _ A27.out).mono ?_); rintro e w' ⟨rfl, ⟨nd, rfl⟩⟩))
         go_ret
         exact ⟨by first | rfl | (simp [errW_none, errW_some] <;> rfl) | (simp [*, errW_none, errW_some] <;> rfl), lb2 HB GE101 GE104⟩
      ·rw [if_neg c8] at H
       exact absurd H (by simp)
     ·rw [if_neg c7] at H
      exact absurd H (by simp)
    ·rw [if_neg c6] at H
     have c6b0 : decide (x14_1 < (l0_0.length : Int)) = false := decide_eq_false c6
     clear c6
     obtain rfl := Option.some.inj H
     go_wp2
     go_ret
     exact ⟨by first | rfl | (simp [errW_none, errW_some] <;> rfl) | (simp [*, errW_none, errW_some] <;> rfl), lb1 HB GE101⟩
 ·replace c3 := Bool.eq_false_iff.mpr c3
  subst c3
  have H1 : (some 260) = some r := by rw [if_neg (show ¬ (false = true) by decide)] at H; exact H
  clear H
  have H := H1
  clear H1
  obtain rfl := Option.some.inj H
  go_enter Tryd.func12, Tryd.ntmps12
  go_wp2_with (first | ((with_reducible refine gate_dst (N := 1) rfl ?_); refine box_event ?hg (N := 1) ?hd (cs := #[.slice A0_0 l0_0.length c0_0]) (t := 24) ?hr ?_; (case hd => rfl); (case hg => rfl); (case hr => first | (go_simp; done) | (go_simp; rfl)); intro gb101 hg w40 hbox hb; have n0_ := ls0 HB hb; have n1_ := Aside0.mk (hbox); have n2_ := Aside0.mk ((by rw [hg]; exact (below_size (lb0 HB)) : w.heap.size ≤ gb101)); have n3_ := Aside0.mk ((by rw [hg]; exact (below_size (lb0 HB)) : w.heap.size ≤ gb101)); clear HB; have HB := n0_; have BK101 := n1_; have GW101 := n2_; have GE101 := n3_; clear n0_ n1_ n2_ n3_; clear hb hbox hg; have hcz41_0 := bc BK101 0; have hfz41_0 := blk_frozen BK101.out 0) | ((with_reducible refine gate_callee (f := 34) rfl ?_); refine goesL_ (some 9) rfl rfl Tryd.func34 (by kernel_rfl) rfl #[.int .i64 (l0_0.length : Int), .int .i64 1, .int .i64 24] rfl (by (try simp only [List.map_toArray, List.map_cons, List.map_nil]); first | done | rfl | (simp only [List.length_drop, List.length_take]; rfl)) ?_; (with_reducible refine (tariff_within.calls (l0_0.length : Int) 1 24 false _ A2.out).mono ?_); rintro e w' ⟨rfl, ⟨nd, rfl⟩⟩; refine ⟨_, rfl, ?_⟩))
  go_ret
  exact ⟨by first | rfl | (simp [errW_none, errW_some] <;> rfl) | (simp [*, errW_none, errW_some] <;> rfl), lb1 HB GE101⟩

end Go.Proofs.YtldpacphackdjaaDoor.Print
/- That the call of function 18 (meter_Total) answers what the Lean function of the same name answers, at every input at which that one answers. (Written by a program of the session, which drives the kit's printer.) -/
namespace Go.Proofs.YtldpacphackdjaaDoor.Print
open Go.RowKit Go.Proofs.YtldpacphackdjaaDoorW.PrintWords Go.Proofs.YtldpacphackdjaaDoorW.PrintLast Go.Proofs.YtldpacphackdjaaDoorW.PrintMore
attribute [local go_sem] max2_int min2_int max_two min_two max_three min_three max_four min_four   -- for this text's walks alone
set_option linter.unusedVariables false
set_option linter.unusedSimpArgs false

/-! ### meter_Total: function 18 -/
def meter_Total.l0 : Nat → Int → Int → Int → Int → List (S98) → Int → Int → Option (Int × Int)
 | 0, _, _, _, _, _, _, _ => none
 | k + 1, x1, x2, x6, x7, x10, x11, x12 => if x12 < x11 then (if 0 ≤ x12 then (if x12 < (x10.length : Int) then (if ((rd_T98 x10 x12).f0) = x1 then (if ((rd_T98 x10 x12).f1) = x2 then (meter_Total.l0 k x1 x2 (wrap64 (x6 + ((rd_T98 x10 x12).f7))) (wrap64 (x7 + (wrap64 (((rd_T98 x10 x12).f5) - ((rd_T98 x10 x12).f4))))) x10 x11 (wrap64 (x12 + 1))) else (meter_Total.l0 k x1 x2 x6 x7 x10 x11 (wrap64 (x12 + 1)))) else (meter_Total.l0 k x1 x2 x6 x7 x10 x11 (wrap64 (x12 + 1)))) else (none)) else (none)) else (some (x6, x7))
def meter_Total.f (k : Nat) (l0 : List (S98)) (a1 : Int) (a2 : Int) : Option (Int × Int) := meter_Total.l0 k a1 a2 0 0 l0 (l0.length : Int) 0
set_option maxHeartbeats 8000000 in
set_option maxRecDepth 100000 in
theorem meter_Total.calls (k : Nat) (A0 : Option Addr) (c0 : Nat) (l0 : List (S98)) (a1 : Int) (a2 : Int) (r1 : Int) (r2 : Int) (w : World) (hr0 : Kd.C k98 w A0 l0.length l0) (hc0 : l0.length ≤ c0) (h : meter_Total.f k l0 a1 a2 = some (r1, r2)) :
  Calls Tryd.prog 18 #[.slice A0 l0.length c0, .int .i64 a1, .int .i64 a2] w fun e w' => e = .returned (.tuple #[.int .i64 r1, .int .i64 r2]) ∧ Below w.heap.size w w' := by
 have hu98 := Tryd.underlying98
 have HR0 := Aside0.mk hr0
 have HC0 := Aside0.mk hc0
 clear hr0 hc0
 have HB := Aside0.mk (Below.refl w.heap.size w)
 have H : (meter_Total.l0 k a1 a2 0 0 l0 (l0.length : Int) 0) = some (r1, r2) := h
 clear h
 have H' := Aside0.mk H
 clear H
 go_enter Tryd.func18, Tryd.ntmps18
 go_wp2
 go_loopg [6, 7, 12] k (fun kq v6 v7 v12 w' => ∃ (x6_1 : Int) (x7_1 : Int) (x12_1 : Int), v6 = .int .i64 x6_1 ∧ v7 = .int .i64 x7_1 ∧ v12 = .int .i64 x12_1 ∧ Aside0 (meter_Total.l0 kq a1 a2 x6_1 x7_1 l0 (l0.length : Int) x12_1 = some (r1, r2)) ∧ Aside0 (kq ≤ k) ∧ Aside0 (Below w.heap.size w w'))
 case atStart => exact ⟨(0), (0), (0), (by first | rfl | (simp; done) | (simp [*]; done)), (by first | rfl | (simp; done) | (simp [*]; done)), (by first | rfl | (simp; done) | (simp [*]; done)), H', ⟨Nat.le_refl _⟩, ⟨lb0 HB⟩⟩
 case round =>
  clear H'
  try clear c1; try clear p2
  obtain ⟨x6_1, x7_1, x12_1, rfl, rfl, rfl, HA, HK1, HB⟩ := hrel
  cases gk with
  | zero => exact absurd HA.out (by simp [meter_Total.l0])
  | succ k1 =>
   have H := HA.out
   clear HA
   simp only [meter_Total.l0] at H
   by_cases c4 : x12_1 < (l0.length : Int)
   ·rw [if_pos c4] at H
    have c4b0 : decide (x12_1 < (l0.length : Int)) = true := decide_eq_true c4
    clear c4
    by_cases c5 : 0 ≤ x12_1
    ·rw [if_pos c5] at H
     have c5b0 : decide (0 ≤ x12_1) = true := decide_eq_true c5
     clear c5
     by_cases c6 : x12_1 < (l0.length : Int)
     ·rw [if_pos c6] at H
      have c6b0 : decide (x12_1 < (l0.length : Int)) = true := decide_eq_true c6
      clear c6
      by_cases c7 : ((rd_T98 l0 x12_1).f0) = a1
      ·rw [if_pos c7] at H
       have c7b0 : (((rd_T98 l0 x12_1).f0) == a1) = true := beq_iff_eq.mpr c7
       have c7b1 : (((rd_T98 l0 x12_1).f0) != a1) = false := bne_eq_false_iff_eq.mpr c7
       clear c7
       by_cases c8 : ((rd_T98 l0 x12_1).f1) = a2
       ·rw [if_pos c8] at H
        have c8b0 : (((rd_T98 l0 x12_1).f1) == a2) = true := beq_iff_eq.mpr c8
        have c8b1 : (((rd_T98 l0 x12_1).f1) != a2) = false := bne_eq_false_iff_eq.mpr c8
        clear c8
        have H' := Aside0.mk H
        clear H
        have p501 : 0 ≤ (x12_1 : Int) := of_decide_eq_true (by first | (with_reducible assumption) | assumption)
        have q501 : x12_1 < (l0.length : Int) := of_decide_eq_true (by first | (with_reducible assumption) | assumption)
        obtain ⟨ad501, e501, hx501_0, hx501_1, hx501_2, hx501_3, hx501_4, hx501_5, hx501_6, hx501_7⟩ := at_T98 HR0.out x12_1 p501 q501
        cases e501
        replace hx501_0 := (HB.out.cell (World.block_lt_of_cell? w _ hx501_0)).trans hx501_0
        replace hx501_1 := (HB.out.cell (World.block_lt_of_cell? w _ hx501_1)).trans hx501_1
        replace hx501_2 := (HB.out.cell (World.block_lt_of_cell? w _ hx501_2)).trans hx501_2
        replace hx501_3 := (HB.out.cell (World.block_lt_of_cell? w _ hx501_3)).trans hx501_3
        replace hx501_4 := (HB.out.cell (World.block_lt_of_cell? w _ hx501_4)).trans hx501_4
        replace hx501_5 := (HB.out.cell (World.block_lt_of_cell? w _ hx501_5)).trans hx501_5
        replace hx501_6 := (HB.out.cell (World.block_lt_of_cell? w _ hx501_6)).trans hx501_6
        replace hx501_7 := (HB.out.cell (World.block_lt_of_cell? w _ hx501_7)).trans hx501_7
        replace p501 := eq_true p501
        replace q501 := eq_true q501
        go_wp2_with (first | ((with_reducible refine gate_dst (N := 9) rfl ?_); refine box_event ?hg (N := 9) ?hd (cs := #[.int .i64 0, .int .i64 0, .int .i64 0, .string (⟨#[]⟩ : ByteArray), .int .i64 0, .int .i64 0, .int .i64 0, .int .i64 0]) (t := 98) ?hr ?_; (case hd => rfl); (case hg => rfl); (case hr => first | (go_simp; done) | (go_simp; rfl)); intro gb502 hg w9 hbox hb; have n0_ := ls0 HB hb; have n1_ := Aside0.mk (hbox); have n2_ := Aside0.mk ((by rw [hg]; exact (below_size (lb0 HB)) : w.heap.size ≤ gb502)); have n3_ := Aside0.mk ((by rw [hg]; exact (below_size (lb0 HB)) : w.heap.size ≤ gb502)); clear HB; have HB := n0_; have BK502 := n1_; have GW502 := n2_; have GE502 := n3_; clear n0_ n1_ n2_ n3_; clear hb hbox hg; have hcz10_0 := bc BK502 0; have hcz10_1 := bc BK502 1; have hcz10_2 := bc BK502 2; have hcz10_3 := bc BK502 3; have hcz10_4 := bc BK502 4; have hcz10_5 := bc BK502 5; have hcz10_6 := bc BK502 6; have hcz10_7 := bc BK502 7; have hfz10_0 := blk_frozen BK502.out 0; have hfz10_1 := blk_frozen BK502.out 1; have hfz10_2 := blk_frozen BK502.out 2; have hfz10_3 := blk_frozen BK502.out 3; have hfz10_4 := blk_frozen BK502.out 4; have hfz10_5 := blk_frozen BK502.out 5; have hfz10_6 := blk_frozen BK502.out 6; have hfz10_7 := blk_frozen BK502.out 7))
        go_roundg k1
        case measure => have := HK1.out; omega
        case rel => exact ⟨(wrap64 (x6_1 + ((rd_T98 l0 x12_1).f7))), (wrap64 (x7_1 + (wrap64 (((rd_T98 l0 x12_1).f5) - ((rd_T98 l0 x12_1).f4))))), (wrap64 (x12_1 + 1)), (by first | rfl | (simp; done) | (simp [*]; done)), (by first | rfl | (simp; done) | (simp [*]; done)), (by first | rfl | (simp; done) | (simp [*]; done)), H', ⟨by have := HK1.out; omega⟩, ⟨lb1 HB GE502⟩⟩
       ·rw [if_neg c8] at H
        have c8b0 : (((rd_T98 l0 x12_1).f1) == a2) = false := beq_eq_false_iff_ne.mpr c8
        have c8b1 : (((rd_T98 l0 x12_1).f1) != a2) = true := bne_iff_ne.mpr c8
        have H' := Aside0.mk H
        clear H
        have p501 : 0 ≤ (x12_1 : Int) := of_decide_eq_true (by first | (with_reducible assumption) | assumption)
        have q501 : x12_1 < (l0.length : Int) := of_decide_eq_true (by first | (with_reducible assumption) | assumption)
        obtain ⟨ad501, e501, hx501_0, hx501_1, hx501_2, hx501_3, hx501_4, hx501_5, hx501_6, hx501_7⟩ := at_T98 HR0.out x12_1 p501 q501
        cases e501
        replace hx501_0 := (HB.out.cell (World.block_lt_of_cell? w _ hx501_0)).trans hx501_0
        replace hx501_1 := (HB.out.cell (World.block_lt_of_cell? w _ hx501_1)).trans hx501_1
        replace hx501_2 := (HB.out.cell (World.block_lt_of_cell? w _ hx501_2)).trans hx501_2
        replace hx501_3 := (HB.out.cell (World.block_lt_of_cell? w _ hx501_3)).trans hx501_3
        replace hx501_4 := (HB.out.cell (World.block_lt_of_cell? w _ hx501_4)).trans hx501_4
        replace hx501_5 := (HB.out.cell (World.block_lt_of_cell? w _ hx501_5)).trans hx501_5
        replace hx501_6 := (HB.out.cell (World.block_lt_of_cell? w _ hx501_6)).trans hx501_6
        replace hx501_7 := (HB.out.cell (World.block_lt_of_cell? w _ hx501_7)).trans hx501_7
        replace p501 := eq_true p501
        replace q501 := eq_true q501
        go_wp2_with (first | ((with_reducible refine gate_dst (N := 9) rfl ?_); refine box_event ?hg (N := 9) ?hd (cs := #[.int .i64 0, .int .i64 0, .int .i64 0, .string (⟨#[]⟩ : ByteArray), .int .i64 0, .int .i64 0, .int .i64 0, .int .i64 0]) (t := 98) ?hr ?_; (case hd => rfl); (case hg => rfl); (case hr => first | (go_simp; done) | (go_simp; rfl)); intro gb502 hg w11 hbox hb; have n0_ := ls0 HB hb; have n1_ := Aside0.mk (hbox); have n2_ := Aside0.mk ((by rw [hg]; exact (below_size (lb0 HB)) : w.heap.size ≤ gb502)); have n3_ := Aside0.mk ((by rw [hg]; exact (below_size (lb0 HB)) : w.heap.size ≤ gb502)); clear HB; have HB := n0_; have BK502 := n1_; have GW502 := n2_; have GE502 := n3_; clear n0_ n1_ n2_ n3_; clear hb hbox hg; have hcz12_0 := bc BK502 0; have hcz12_1 := bc BK502 1; have hcz12_2 := bc BK502 2; have hcz12_3 := bc BK502 3; have hcz12_4 := bc BK502 4; have hcz12_5 := bc BK502 5; have hcz12_6 := bc BK502 6; have hcz12_7 := bc BK502 7; have hfz12_0 := blk_frozen BK502.out 0; have hfz12_1 := blk_frozen BK502.out 1; have hfz12_2 := blk_frozen BK502.out 2; have hfz12_3 := blk_frozen BK502.out 3; have hfz12_4 := blk_frozen BK502.out 4; have hfz12_5 := blk_frozen BK502.out 5; have hfz12_6 := blk_frozen BK502.out 6; have hfz12_7 := blk_frozen BK502.out 7))
        go_roundg k1
        case measure => have := HK1.out; omega
        case rel => exact ⟨(x6_1), (x7_1), (wrap64 (x12_1 + 1)), (by first | rfl | (simp; done) | (simp [*]; done)), (by first | rfl | (simp; done) | (simp [*]; done)), (by first | rfl | (simp; done) | (simp [*]; done)), H', ⟨by have := HK1.out; omega⟩, ⟨lb1 HB GE502⟩⟩
      ·rw [if_neg c7] at H
       have c7b0 : (((rd_T98 l0 x12_1).f0) == a1) = false := beq_eq_false_iff_ne.mpr c7
       have c7b1 : (((rd_T98 l0 x12_1).f0) != a1) = true := bne_iff_ne.mpr c7
       have H' := Aside0.mk H
       clear H
       have p501 : 0 ≤ (x12_1 : Int) := of_decide_eq_true (by first | (with_reducible assumption) | assumption)
       have q501 : x12_1 < (l0.length : Int) := of_decide_eq_true (by first | (with_reducible assumption) | assumption)
       obtain ⟨ad501, e501, hx501_0, hx501_1, hx501_2, hx501_3, hx501_4, hx501_5, hx501_6, hx501_7⟩ := at_T98 HR0.out x12_1 p501 q501
       cases e501
       replace hx501_0 := (HB.out.cell (World.block_lt_of_cell? w _ hx501_0)).trans hx501_0
       replace hx501_1 := (HB.out.cell (World.block_lt_of_cell? w _ hx501_1)).trans hx501_1
       replace hx501_2 := (HB.out.cell (World.block_lt_of_cell? w _ hx501_2)).trans hx501_2
       replace hx501_3 := (HB.out.cell (World.block_lt_of_cell? w _ hx501_3)).trans hx501_3
       replace hx501_4 := (HB.out.cell (World.block_lt_of_cell? w _ hx501_4)).trans hx501_4
       replace hx501_5 := (HB.out.cell (World.block_lt_of_cell? w _ hx501_5)).trans hx501_5
       replace hx501_6 := (HB.out.cell (World.block_lt_of_cell? w _ hx501_6)).trans hx501_6
       replace hx501_7 := (HB.out.cell (World.block_lt_of_cell? w _ hx501_7)).trans hx501_7
       replace p501 := eq_true p501
       replace q501 := eq_true q501
       go_wp2_with (first | ((with_reducible refine gate_dst (N := 9) rfl ?_); refine box_event ?hg (N := 9) ?hd (cs := #[.int .i64 0, .int .i64 0, .int .i64 0, .string (⟨#[]⟩ : ByteArray), .int .i64 0, .int .i64 0, .int .i64 0, .int .i64 0]) (t := 98) ?hr ?_; (case hd => rfl); (case hg => rfl); (case hr => first | (go_simp; done) | (go_simp; rfl)); intro gb502 hg w13 hbox hb; have n0_ := ls0 HB hb; have n1_ := Aside0.mk (hbox); have n2_ := Aside0.mk ((by rw [hg]; exact (below_size (lb0 HB)) : w.heap.size ≤ gb502)); have n3_ := Aside0.mk ((by rw [hg]; exact (below_size (lb0 HB)) : w.heap.size ≤ gb502)); clear HB; have HB := n0_; have BK502 := n1_; have GW502 := n2_; have GE502 := n3_; clear n0_ n1_ n2_ n3_; clear hb hbox hg; have hcz14_0 := bc BK502 0; have hcz14_1 := bc BK502 1; have hcz14_2 := bc BK502 2; have hcz14_3 := bc BK502 3; have hcz14_4 := bc BK502 4; have hcz14_5 := bc BK502 5; have hcz14_6 := bc BK502 6; have hcz14_7 := bc BK502 7; have hfz14_0 := blk_frozen BK502.out 0; have hfz14_1 := blk_frozen BK502.out 1; have hfz14_2 := blk_frozen BK502.out 2; have hfz14_3 := blk_frozen BK502.out 3; have hfz14_4 := blk_frozen BK502.out 4; have hfz14_5 := blk_frozen BK502.out 5; have hfz14_6 := blk_frozen BK502.out 6; have hfz14_7 := blk_frozen BK502.out 7))
       go_roundg k1
       case measure => have := HK1.out; omega
       case rel => exact ⟨(x6_1), (x7_1), (wrap64 (x12_1 + 1)), (by first | rfl | (simp; done) | (simp [*]; done)), (by first | rfl | (simp; done) | (simp [*]; done)), (by first | rfl | (simp; done) | (simp [*]; done)), H', ⟨by have := HK1.out; omega⟩, ⟨lb1 HB GE502⟩⟩
     ·rw [if_neg c6] at H
      exact absurd H (by simp)
    ·rw [if_neg c5] at H
     exact absurd H (by simp)
   ·rw [if_neg c4] at H
    have c4b0 : decide (x12_1 < (l0.length : Int)) = false := decide_eq_false c4
    clear c4
    simp only [Option.some.injEq, Prod.mk.injEq] at H
    obtain ⟨rfl, rfl⟩ := H
    go_wp2
    go_ret2
    exact ⟨by first | rfl | (simp [errW_none, errW_some] <;> rfl) | (simp [*, errW_none, errW_some] <;> rfl), lb0 HB⟩

end Go.Proofs.YtldpacphackdjaaDoor.Print
/- Plain definitions on lists of bands: what a valid tariff is, which band a second belongs to, what the seconds from 0 to a time cost, and how many seconds are affordable. No conditions: nothing is proved here but decidability. -/
namespace Go.Proofs.YtldpacphackdjaaDoor.Print
open Go.RowKit
set_option linter.unusedVariables false

/-- The bands from one on are in order and in range; `m` is the least start that the next one may have. -/
def goodFrom : Int → List S70 → Bool
  | _, [] => true
  | m, b :: t => (decide (m ≤ b.f0) && (decide (b.f0 ≤ 86399) && (decide (0 ≤ b.f1) && decide (b.f1 ≤ 1000000)))) && goodFrom (b.f0 + 1) t
/-- A valid list of bands. -/
def good : List S70 → Bool
  | [] => false
  | b :: t => decide (b.f0 = 0) && (goodFrom 0 (b :: t) && decide ((b :: t).length ≤ 24))
/-- How many bands start at a second or before it. -/
def upTo (s : Int) : List S70 → Nat
  | [] => 0
  | b :: t => if b.f0 ≤ s then upTo s t + 1 else upTo s t
/-- What the first n seconds of a day cost, by the bands from the last to the first. -/
def firstR : List S70 → Int → Int
  | [], _ => 0
  | b :: t, n => if b.f0 < n then (n - b.f0) * b.f1 + firstR t b.f0 else firstR t n
def first (l : List S70) (n : Int) : Int := firstR l.reverse n
/-- What the seconds from 0 to a time cost. -/
def totalP (l : List S70) (x : Int) : Int := x / 86400 * first l 86400 + first l (x % 86400)
/-- How many of the first m seconds behind `a` are affordable one after the other. -/
def affN (l : List S70) (a u : Int) : Nat → Nat
  | 0 => 0
  | m + 1 => if affN l a u m = m ∧ totalP l (a + (m : Int) + 1) - totalP l a ≤ u then m + 1 else affN l a u m

def tariff_band.f (l : List S70) (s : Int) : Option Int := if good l = true ∧ 0 ≤ s ∧ s ≤ 86399 then some ((upTo s l : Int) - 1) else none
def tariff_until.f (l : List S70) (x : Int) : Option Int := if good l = true ∧ 0 ≤ x ∧ x ≤ 1099511627776 then some (totalP l x) else none
def tariff_Afford.f (l : List S70) (a u m : Int) : Option (Int × Int) :=
  if good l = true then
    if 0 ≤ a ∧ a ≤ 1099511627776 ∧ 0 ≤ u ∧ 0 ≤ m ∧ m ≤ 1099511627776 - a then some ((affN l a u m.toNat : Int), 0) else some (0, 1)
  else some (0, 260)

theorem goodFrom_at : ∀ (l : List S70) (m : Int), goodFrom m l = true → ∀ j, j < l.length → m + (j : Int) ≤ (rd_T70 l j).f0 ∧ (rd_T70 l j).f0 ≤ 86399 ∧ 0 ≤ (rd_T70 l j).f1 ∧ (rd_T70 l j).f1 ≤ 1000000
  | [], _, _, j, hj => absurd hj (by simp)
  | b :: t, m, h, j, hj => by
    simp only [goodFrom, Bool.and_eq_true, decide_eq_true_eq] at h
    obtain ⟨⟨h1, h2, h3, h4⟩, h5⟩ := h
    cases j with
    | zero => exact ⟨by simpa [rd_T70] using h1, by simpa [rd_T70] using h2, by simpa [rd_T70] using h3, by simpa [rd_T70] using h4⟩
    | succ j =>
      obtain ⟨g1, g2⟩ := goodFrom_at t (b.f0 + 1) h5 j (by simpa using hj)
      have e : rd_T70 (b :: t) ((j + 1 : Nat) : Int) = rd_T70 t (j : Int) := by simp [rd_T70, show ((j : Int) + 1).toNat = j + 1 by omega]
      rw [e]
      exact ⟨by omega, g2⟩
theorem good_at {l : List S70} (h : good l = true) (j : Nat) (hj : j < l.length) : (j : Int) ≤ (rd_T70 l j).f0 ∧ (rd_T70 l j).f0 ≤ 86399 ∧ 0 ≤ (rd_T70 l j).f1 ∧ (rd_T70 l j).f1 ≤ 1000000 := by
  cases l with
  | nil => simp [good] at h
  | cons b t =>
    simp only [good, Bool.and_eq_true, decide_eq_true_eq] at h
    have := goodFrom_at _ _ h.2.1 j hj
    exact ⟨by omega, this.2⟩
theorem good_len {l : List S70} (h : good l = true) : 1 ≤ l.length ∧ l.length ≤ 24 := by
  cases l with
  | nil => simp [good] at h
  | cons b t =>
    simp only [good, Bool.and_eq_true, decide_eq_true_eq] at h
    exact ⟨by simp, h.2.2⟩
theorem good_head {l : List S70} (h : good l = true) : (rd_T70 l 0).f0 = 0 := by
  cases l with
  | nil => simp [good] at h
  | cons b t =>
    simp only [good, Bool.and_eq_true, decide_eq_true_eq] at h
    simpa [rd_T70] using h.1
/-- The place at which the starts pass a second. -/
theorem upTo_le (s : Int) : ∀ l : List S70, upTo s l ≤ l.length
  | [] => Nat.le_refl _
  | b :: t => by
    have := upTo_le s t
    simp only [upTo, List.length_cons]
    split <;> omega
theorem goodFrom_none (s : Int) : ∀ (l : List S70) (m : Int), goodFrom m l = true → s < m → upTo s l = 0
  | [], _, _, _ => rfl
  | b :: t, m, h, hs => by
    simp only [goodFrom, Bool.and_eq_true, decide_eq_true_eq] at h
    simp only [upTo]
    rw [if_neg (by omega)]
    exact goodFrom_none s t _ h.2 (by omega)
theorem goodFrom_upTo (s : Int) : ∀ (l : List S70) (m : Int), goodFrom m l = true → ∀ j, j < l.length → ((rd_T70 l j).f0 ≤ s ↔ j < upTo s l)
  | [], _, _, j, hj => absurd hj (by simp)
  | b :: t, m, h, j, hj => by
    have h0 := h
    simp only [goodFrom, Bool.and_eq_true, decide_eq_true_eq] at h
    obtain ⟨_, h5⟩ := h
    by_cases hb : b.f0 ≤ s
    · simp only [upTo]
      rw [if_pos hb]
      cases j with
      | zero => simpa [rd_T70] using hb
      | succ j =>
        have := goodFrom_upTo s t _ h5 j (by simpa using hj)
        have e : rd_T70 (b :: t) ((j + 1 : Nat) : Int) = rd_T70 t (j : Int) := by simp [rd_T70, show ((j : Int) + 1).toNat = j + 1 by omega]
        rw [e, this]
        omega
    · have hz : upTo s (b :: t) = 0 := by
        simp only [upTo]
        rw [if_neg hb]
        exact goodFrom_none s t _ h5 (by omega)
      rw [hz]
      cases j with
      | zero => simpa [rd_T70] using hb
      | succ j =>
        have := goodFrom_at t _ h5 j (by simpa using hj)
        have e : rd_T70 (b :: t) ((j + 1 : Nat) : Int) = rd_T70 t (j : Int) := by simp [rd_T70, show ((j : Int) + 1).toNat = j + 1 by omega]
        rw [e]
        constructor <;> intro <;> omega
theorem good_upTo {l : List S70} (h : good l = true) (s : Int) (j : Nat) (hj : j < l.length) : (rd_T70 l j).f0 ≤ s ↔ j < upTo s l := by
  cases l with
  | nil => simp [good] at h
  | cons b t =>
    simp only [good, Bool.and_eq_true, decide_eq_true_eq] at h
    exact goodFrom_upTo s _ _ h.2.1 j hj
theorem good_upTo_pos {l : List S70} (h : good l = true) (s : Int) (hs : 0 ≤ s) : 1 ≤ upTo s l := by
  have h1 := good_len h
  have h2 := (good_upTo h s 0 (by omega)).1 (by have := good_head h; simpa [this] using hs)
  omega
theorem goodFrom_step : ∀ (l : List S70) (m : Int), goodFrom m l = true → ∀ j, j + 1 < l.length → (rd_T70 l j).f0 < (rd_T70 l ((j + 1 : Nat) : Int)).f0
  | [], _, _, j, hj => absurd hj (by simp)
  | b :: t, m, h, j, hj => by
    simp only [goodFrom, Bool.and_eq_true, decide_eq_true_eq] at h
    obtain ⟨_, h5⟩ := h
    have e : ∀ j : Nat, rd_T70 (b :: t) ((j + 1 : Nat) : Int) = rd_T70 t (j : Int) := fun j => by simp [rd_T70, show ((j : Int) + 1).toNat = j + 1 by omega]
    rw [e]
    cases j with
    | zero =>
      have := goodFrom_at t _ h5 0 (by simpa using hj)
      have e0 : rd_T70 (b :: t) ((0 : Nat) : Int) = b := by simp [rd_T70]
      rw [e0]
      omega
    | succ j =>
      rw [e]
      exact goodFrom_step t _ h5 j (by simpa using hj)
theorem goodStep {l : List S70} (h : good l = true) (j : Nat) (hj : j + 1 < l.length) : (rd_T70 l j).f0 < (rd_T70 l ((j + 1 : Nat) : Int)).f0 := by
  cases l with
  | nil => simp [good] at h
  | cons b t =>
    simp only [good, Bool.and_eq_true, decide_eq_true_eq] at h
    exact goodFrom_step _ _ h.2.1 j hj
end Go.Proofs.YtldpacphackdjaaDoor.Print
/- Plain laws on tariffs: one second costs its rate, prices grow, and the affordable seconds are the greatest number that can be paid for. Conditions: a valid list of bands, times from 0 on. -/
namespace Go.Proofs.YtldpacphackdjaaDoor.Print
open Go.RowKit
set_option linter.unusedVariables false

theorem firstR_nil (n : Int) : firstR [] n = 0 := rfl
theorem firstR_yes {b : S70} {n : Int} (t : List S70) (h : b.f0 < n) : firstR (b :: t) n = (n - b.f0) * b.f1 + firstR t b.f0 := by simp only [firstR]; rw [if_pos h]
theorem firstR_no {b : S70} {n : Int} (t : List S70) (h : ¬ b.f0 < n) : firstR (b :: t) n = firstR t n := by simp only [firstR]; rw [if_neg h]
theorem mul_bd (x y : Int) (h0 : 0 ≤ x) (h1 : 0 ≤ y) (h2 : y ≤ 1000000) : 0 ≤ x * y ∧ x * y ≤ x * 1000000 := ⟨Int.mul_nonneg h0 h1, Int.mul_le_mul_of_nonneg_left h2 h0⟩
/-- The rate of a second, by the bands from the last to the first. -/
def rateR : List S70 → Int → Int
  | [], _ => 0
  | b :: t, s => if b.f0 ≤ s then b.f1 else rateR t s
def rateAt (l : List S70) (s : Int) : Int := rateR l.reverse s
theorem firstR_succ (s : Int) : ∀ r : List S70, firstR r (s + 1) = firstR r s + rateR r s
  | [] => by simp [firstR, rateR]
  | b :: t => by
    simp only [rateR]
    by_cases h : b.f0 ≤ s
    · rw [if_pos h, firstR_yes t (show b.f0 < s + 1 by omega)]
      by_cases h2 : b.f0 < s
      · rw [firstR_yes t h2, show s + 1 - b.f0 = (s - b.f0) + 1 by omega, Int.add_mul, Int.one_mul]
        omega
      · rw [firstR_no t h2]
        obtain rfl : b.f0 = s := by omega
        rw [show b.f0 + 1 - b.f0 = 1 by omega, Int.one_mul]
        omega
    · rw [if_neg h, firstR_no t (by omega), firstR_no t (by omega)]
      exact firstR_succ s t
theorem first_succ (l : List S70) (s : Int) : first l (s + 1) = first l s + rateAt l s := firstR_succ s l.reverse
theorem firstR_zero : ∀ r : List S70, (∀ b ∈ r, 0 ≤ b.f0) → firstR r 0 = 0
  | [], _ => rfl
  | b :: t, h => by
    rw [firstR_no t (by have := h b (by simp); omega)]
    exact firstR_zero t fun x hx => h x (by simp [hx])
theorem firstR_bd : ∀ (r : List S70) (n : Int), (∀ b ∈ r, 0 ≤ b.f0 ∧ 0 ≤ b.f1 ∧ b.f1 ≤ 1000000) → 0 ≤ n → 0 ≤ firstR r n ∧ firstR r n ≤ n * 1000000
  | [], n, _, hn => by simp only [firstR]; omega
  | b :: t, n, h, hn => by
    obtain ⟨h0, h1, h2⟩ := h b (by simp)
    by_cases hlt : b.f0 < n
    · rw [firstR_yes _ hlt]
      obtain ⟨i0, i1⟩ := firstR_bd t b.f0 (fun x hx => h x (by simp [hx])) h0
      obtain ⟨m0, m1⟩ := mul_bd (n - b.f0) b.f1 (by omega) h1 h2
      have : (n - b.f0) * 1000000 + b.f0 * 1000000 = n * 1000000 := by omega
      omega
    · rw [firstR_no _ hlt]
      exact firstR_bd t n (fun x hx => h x (by simp [hx])) hn
theorem good_mem {l : List S70} (h : good l = true) : ∀ b ∈ l, 0 ≤ b.f0 ∧ b.f0 ≤ 86399 ∧ 0 ≤ b.f1 ∧ b.f1 ≤ 1000000 := by
  intro b hb
  obtain ⟨j, hj, rfl⟩ := List.getElem_of_mem hb
  have := good_at h j hj
  simp only [rd_T70, Int.toNat_natCast, List.getD_eq_getElem?_getD, List.getElem?_eq_getElem hj, Option.getD_some] at this
  omega
theorem first_bd {l : List S70} (h : good l = true) (n : Int) (hn : 0 ≤ n) : 0 ≤ first l n ∧ first l n ≤ n * 1000000 :=
  firstR_bd _ _ (fun b hb => by have := good_mem h b (by simpa using hb); omega) hn
theorem first_zero {l : List S70} (h : good l = true) : first l 0 = 0 := firstR_zero _ fun b hb => (good_mem h b (by simpa using hb)).1
theorem rateR_bd : ∀ (r : List S70) (s : Int), (∀ b ∈ r, 0 ≤ b.f1 ∧ b.f1 ≤ 1000000) → 0 ≤ rateR r s ∧ rateR r s ≤ 1000000
  | [], _, _ => by simp [rateR]
  | b :: t, s, h => by
    simp only [rateR]
    split
    · exact h b (by simp)
    · exact rateR_bd t s fun x hx => h x (by simp [hx])
theorem rateAt_bd {l : List S70} (h : good l = true) (s : Int) : 0 ≤ rateAt l s ∧ rateAt l s ≤ 1000000 := rateR_bd _ _ fun b hb => (good_mem h b (by simpa using hb)).2.2
/-- One second costs its rate. -/
theorem totalP_succ {l : List S70} (h : good l = true) (x : Int) (hx : 0 ≤ x) : totalP l (x + 1) = totalP l x + rateAt l (x % 86400) := by
  have h1 := first_succ l (x % 86400)
  unfold totalP
  by_cases hs : x % 86400 = 86399
  · have e1 : (x + 1) / 86400 = x / 86400 + 1 := by omega
    have e2 : (x + 1) % 86400 = 0 := by omega
    rw [e1, e2, first_zero h, Int.add_mul, Int.one_mul]
    rw [hs] at h1 ⊢
    have : first l (86399 + 1) = first l 86400 := by rw [show (86399 : Int) + 1 = 86400 by decide]
    omega
  · have e1 : (x + 1) / 86400 = x / 86400 := by omega
    have e2 : (x + 1) % 86400 = x % 86400 + 1 := by omega
    rw [e1, e2, h1]
    omega
theorem totalP_add {l : List S70} (h : good l = true) (x : Int) (hx : 0 ≤ x) : ∀ n : Nat, totalP l x ≤ totalP l (x + n) ∧ totalP l (x + n) ≤ totalP l x + n * 1000000
  | 0 => by simp
  | n + 1 => by
    have ih := totalP_add h x hx n
    have e : x + ((n + 1 : Nat) : Int) = (x + n) + 1 := by omega
    have := totalP_succ h (x + n) (by omega)
    have hb := rateAt_bd h ((x + n) % 86400)
    rw [e, this]
    omega
theorem totalP_mono {l : List S70} (h : good l = true) (x y : Int) (hx : 0 ≤ x) (hy : x ≤ y) : totalP l x ≤ totalP l y := by
  obtain ⟨n, rfl⟩ : ∃ n : Nat, y = x + n := ⟨(y - x).toNat, by omega⟩
  exact (totalP_add h x hx n).1
theorem totalP_bd {l : List S70} (h : good l = true) (x : Int) (hx : 0 ≤ x) : 0 ≤ totalP l x ∧ totalP l x ≤ x * 1000000 := by
  have z : totalP l 0 = 0 := by simp [totalP, first_zero h]
  have h1 := totalP_add h 0 (by omega) x.toNat
  rw [z] at h1
  have e : (0 : Int) + ((x.toNat : Nat) : Int) = x := by omega
  rw [e] at h1
  omega
/-- The affordable seconds. -/
theorem affN_le (l : List S70) (a u : Int) : ∀ m, affN l a u m ≤ m
  | 0 => Nat.le_refl _
  | m + 1 => by
    have := affN_le l a u m
    simp only [affN]
    split <;> omega
theorem affN_pays {l : List S70} (h : good l = true) (a u : Int) (ha : 0 ≤ a) (hu : 0 ≤ u) : ∀ m, totalP l (a + (affN l a u m : Int)) - totalP l a ≤ u
  | 0 => by simp [affN]; exact hu
  | m + 1 => by
    have ih := affN_pays h a u ha hu m
    simp only [affN]
    split
    · rename_i hc
      have e : a + ((m + 1 : Nat) : Int) = a + (m : Int) + 1 := by omega
      rw [e]
      exact hc.2
    · exact ih
theorem affN_max {l : List S70} (h : good l = true) (a u : Int) (ha : 0 ≤ a) : ∀ m, affN l a u m < m → u < totalP l (a + (affN l a u m : Int) + 1) - totalP l a
  | 0, hm => absurd hm (by simp)
  | m + 1, hm => by
    simp only [affN] at hm ⊢
    by_cases hc : affN l a u m = m ∧ totalP l (a + (m : Int) + 1) - totalP l a ≤ u
    · rw [if_pos hc] at hm
      exact absurd hm (by omega)
    · rw [if_neg hc] at hm ⊢
      by_cases he : affN l a u m = m
      · rw [he]
        have : ¬ totalP l (a + (m : Int) + 1) - totalP l a ≤ u := fun h => hc ⟨he, h⟩
        omega
      · exact affN_max h a u ha m (by have := affN_le l a u m; omega)
/-- j seconds more are too dear just where j is not below the number of affordable ones. -/
theorem affN_iff {l : List S70} (h : good l = true) (a u : Int) (ha : 0 ≤ a) (hu : 0 ≤ u) (m j : Nat) (hj : j < m) : u < totalP l (a + (j : Int) + 1) - totalP l a ↔ affN l a u m ≤ j := by
  constructor
  · intro hlt
    refine Nat.le_of_not_lt fun hc => ?_
    have h1 := affN_pays h a u ha hu m
    have h2 := totalP_mono h (a + (j : Int) + 1) (a + (affN l a u m : Int)) (by omega) (by omega)
    omega
  · intro hle
    have h1 := affN_max h a u ha m (by omega)
    have h2 := totalP_mono h (a + (affN l a u m : Int) + 1) (a + (j : Int) + 1) (by omega) (by omega)
    omega
/-- Whoever pays, and of whom one more is too dear or who is the limit, is the number of affordable seconds. -/
theorem affN_unique {l : List S70} (h : good l = true) (a u : Int) (ha : 0 ≤ a) (hu : 0 ≤ u) (m n : Nat) (hn : n ≤ m) (h1 : totalP l (a + (n : Int)) - totalP l a ≤ u) (h2 : n < m → u < totalP l (a + (n : Int) + 1) - totalP l a) : affN l a u m = n := by
  have k1 := affN_pays h a u ha hu m
  have k2 := affN_max h a u ha m
  have k3 := affN_le l a u m
  rcases Nat.lt_trichotomy (affN l a u m) n with hlt | he | hgt
  · have := k2 (by omega)
    have := totalP_mono h (a + (affN l a u m : Int) + 1) (a + (n : Int)) (by omega) (by omega)
    omega
  · exact he
  · have := h2 (by omega)
    have := totalP_mono h (a + (n : Int) + 1) (a + (affN l a u m : Int)) (by omega) (by omega)
    omega
/-! ### Bands by their index -/
theorem take_last (l : List S70) (k : Nat) (hk : k < l.length) : (l.take (k + 1)).reverse = rd_T70 l (k : Int) :: (l.take k).reverse := by
  rw [List.take_succ_eq_append_getElem hk]
  simp [rd_T70, List.getD_eq_getElem?_getD, List.getElem?_eq_getElem hk]
theorem rateR_take {l : List S70} (h : good l = true) (t : Int) : ∀ k, upTo t l ≤ k → k ≤ l.length → rateR (l.take k).reverse t = rateR (l.take (upTo t l)).reverse t := by
  intro k
  induction k with
  | zero => intro h1 _; rw [show upTo t l = 0 by omega]
  | succ k ih =>
    intro h1 h2
    by_cases he : upTo t l = k + 1
    · rw [he]
    · rw [take_last l k (by omega)]
      have := good_upTo h t k (by omega)
      simp only [rateR]
      rw [if_neg (by omega)]
      exact ih (by omega) (by omega)
theorem rateAt_eq {l : List S70} (h : good l = true) (t : Int) (ht : 0 ≤ t) : rateAt l t = (rd_T70 l ((upTo t l - 1 : Nat) : Int)).f1 := by
  have h1 := good_upTo_pos h t ht
  have h2 := upTo_le t l
  have h3 := rateR_take h t l.length h2 (Nat.le_refl _)
  rw [List.take_length] at h3
  unfold rateAt
  obtain ⟨c, hc⟩ : ∃ c, upTo t l = c + 1 := ⟨upTo t l - 1, by omega⟩
  rw [h3, hc, take_last l c (by omega)]
  have h4 := good_upTo h t c (by omega)
  simp only [rateR]
  rw [if_pos (by omega)]
  rfl
theorem good_lt {l : List S70} (h : good l = true) (i j : Nat) (hj : j < l.length) (hij : i < j) : (rd_T70 l i).f0 < (rd_T70 l j).f0 := by
  induction j with
  | zero => omega
  | succ j ih =>
    have := goodStep h j (by omega)
    by_cases he : i = j
    · subst he; exact this
    · have := ih (by omega) (by omega); omega
theorem upTo_start {l : List S70} (h : good l = true) (i : Nat) (hi : i < l.length) : upTo (rd_T70 l i).f0 l = i + 1 := by
  have h1 := (good_upTo h (rd_T70 l i).f0 i hi).1 (Int.le_refl _)
  have h2 := upTo_le (rd_T70 l i).f0 l
  by_cases he : i + 1 < l.length
  · have h3 := good_upTo h (rd_T70 l i).f0 (i + 1) he
    have h4 := goodStep h i he
    omega
  · omega
theorem rateAt_start {l : List S70} (h : good l = true) (i : Nat) (hi : i < l.length) : rateAt l (rd_T70 l i).f0 = (rd_T70 l i).f1 := by
  rw [rateAt_eq h _ (by have := good_at h i hi; omega), upTo_start h i hi]
  rfl
/-- Two seconds with no start between them are in the same band. -/
theorem upTo_mono {l : List S70} (h : good l = true) (s t : Int) (hst : s ≤ t) : upTo s l ≤ upTo t l := by
  refine Nat.le_of_not_lt fun hlt => ?_
  have h1 := upTo_le s l
  have h2 := (good_upTo h s (upTo t l) (by omega)).2 hlt
  have h3 := (good_upTo h t (upTo t l) (by omega)).1 (by omega)
  omega

/-! ### The next change -/
/-- nx is the first time behind x at which the rate is another one; without one, ok is false. -/
def ChangeIs (l : List S70) (x nx : Int) (ok : Bool) : Prop :=
  (ok = true ∧ x < nx ∧ rateAt l (nx % 86400) ≠ rateAt l (x % 86400) ∧ ∀ y, x ≤ y → y < nx → rateAt l (y % 86400) = rateAt l (x % 86400)) ∨
  (ok = false ∧ nx = 0 ∧ ∀ y, rateAt l (y % 86400) = rateAt l (x % 86400))
/-- The time at which band i begins on day d behind x's own day. -/
def startT (l : List S70) (x : Int) (d i : Nat) : Int := x - x % 86400 + (d : Int) * 86400 + (rd_T70 l i).f0
/-- Where all bands that begin behind x and before T have x's rate, all seconds from x to T have it. -/
theorem constant_to {l : List S70} (h : good l = true) (x T : Int) (hx : 0 ≤ x) (hT : T ≤ x - x % 86400 + 172800)
    (hc : ∀ d i : Nat, d < 2 → i < l.length → x < startT l x d i → startT l x d i < T → (rd_T70 l i).f1 = rateAt l (x % 86400)) :
    ∀ y, x ≤ y → y < T → rateAt l (y % 86400) = rateAt l (x % 86400) := by
  intro y h1 h2
  have h3 := good_upTo_pos h (y % 86400) (by omega)
  have h4 := upTo_le (y % 86400) l
  obtain ⟨c, hc0⟩ : ∃ c, upTo (y % 86400) l = c + 1 := ⟨upTo (y % 86400) l - 1, by omega⟩
  have hcl : c < l.length := by omega
  have h5 := (good_upTo h (y % 86400) c hcl).2 (by omega)
  have h6 := good_at h c hcl
  have hr : rateAt l (y % 86400) = (rd_T70 l c).f1 := by rw [rateAt_eq h _ (by omega), hc0]; rfl
  rw [hr]
  by_cases hday : y < x - x % 86400 + 86400
  · by_cases hb : x < startT l x 0 c
    · exact hc 0 c (by omega) hcl hb (by unfold startT; omega)
    · unfold startT at hb
      have e : upTo (x % 86400) l = c + 1 := by
        have m1 := upTo_mono h (x % 86400) (y % 86400) (by omega)
        have m2 := (good_upTo h (x % 86400) c hcl).1 (by omega)
        omega
      rw [rateAt_eq h (x % 86400) (by omega), e]
      rfl
  · exact hc 1 c (by omega) hcl (by unfold startT; omega) (by unfold startT; omega)
/-- Where all bands have one rate, so has every time. -/
theorem constant_all {l : List S70} (h : good l = true) (r : Int) (hc : ∀ i : Nat, i < l.length → (rd_T70 l i).f1 = r) (y : Int) : rateAt l (y % 86400) = r := by
  have h3 := good_upTo_pos h (y % 86400) (by omega)
  have h4 := upTo_le (y % 86400) l
  rw [rateAt_eq h _ (by omega)]
  exact hc _ (by omega)
theorem startT_mod {l : List S70} (h : good l = true) (x : Int) (d i : Nat) (hi : i < l.length) : startT l x d i % 86400 = (rd_T70 l i).f0 := by
  have := good_at h i hi
  unfold startT
  omega
/-- A band that begins behind x with another rate, all that begin between being of x's rate, is the next change. -/
theorem change_found {l : List S70} (h : good l = true) (x : Int) (hx : 0 ≤ x) (d i : Nat) (hd : d < 2) (hi : i < l.length) (h1 : x < startT l x d i) (h2 : (rd_T70 l i).f1 ≠ rateAt l (x % 86400))
    (hc : ∀ d' i' : Nat, d' < 2 → i' < l.length → x < startT l x d' i' → startT l x d' i' < startT l x d i → (rd_T70 l i').f1 = rateAt l (x % 86400)) : ChangeIs l x (startT l x d i) true := by
  refine .inl ⟨rfl, h1, ?_, constant_to h x _ hx ?_ hc⟩
  · rw [startT_mod h x d i hi, rateAt_start h i hi]
    exact h2
  · have := good_at h i hi
    unfold startT
    omega
theorem change_none {l : List S70} (h : good l = true) (x : Int) (hc : ∀ i : Nat, i < l.length → (rd_T70 l i).f1 = rateAt l (x % 86400)) : ChangeIs l x 0 false :=
  .inr ⟨rfl, rfl, constant_all h _ hc⟩
/-- Where the rate is r from x on, for n seconds, they cost n times r. -/
theorem totalP_flat {l : List S70} (h : good l = true) (x : Int) (hx : 0 ≤ x) (r : Int) : ∀ n : Nat, (∀ y, x ≤ y → y < x + n → rateAt l (y % 86400) = r) → totalP l (x + n) - totalP l x = n * r
  | 0, _ => by simp
  | n + 1, hc => by
    have ih := totalP_flat h x hx r n (fun y h1 h2 => hc y h1 (by omega))
    have e : x + ((n + 1 : Nat) : Int) = (x + n) + 1 := by omega
    rw [e, totalP_succ h (x + n) (by omega), hc (x + n) (by omega) (by omega), show ((n + 1 : Nat) : Int) * r = n * r + r by rw [Int.natCast_add, Int.add_mul]; simp]
    omega
end Go.Proofs.YtldpacphackdjaaDoor.Print
/- That tariff.until answers the price of the seconds from 0 to a time, for every valid tariff and every time from 0 to 2^40. -/
namespace Go.Proofs.YtldpacphackdjaaDoor.Print
open Go.RowKit Go.Proofs.YtldpacphackdjaaDoorW.PrintWords Go.Proofs.YtldpacphackdjaaDoorW.PrintLast Go.Proofs.YtldpacphackdjaaDoorW.PrintMore
set_option linter.unusedVariables false
set_option linter.unusedSimpArgs false

set_option maxHeartbeats 4000000 in
set_option maxRecDepth 100000 in
theorem until1_calls (A0 : Option Addr) (c0 : Nat) (l : List S70) (n0 : Int) (gb : Nat) (w : World) (hr : Kd.C k70 w A0 l.length l) (hlen : l.length ≤ 24) (h0 : 0 ≤ n0) (h1 : n0 ≤ 86400)
    (hb : ∀ j : Nat, j < l.length → 0 ≤ (rd_T70 l j).f0 ∧ (rd_T70 l j).f0 ≤ 86399 ∧ 0 ≤ (rd_T70 l j).f1 ∧ (rd_T70 l j).f1 ≤ 1000000)
    (hbox : w.cell? ⟨gb, 0, none⟩ = some (.slice A0 l.length c0)) :
    Calls Tryd.prog 76 #[.int .i64 n0, .pointer (some ⟨gb, 0, none⟩)] w fun e w' => e = .returned (.int .i64 (first l n0)) ∧ Below w.heap.size w w' := by
  have hu := Tryd.underlying70
  have hu2 := Tryd.underlying24
  have HR := Aside0.mk hr
  have HB := Aside0.mk hb
  have BX := Aside0.mk hbox
  have B0 := Aside0.mk (Below.refl w.heap.size w)
  have S0 := Aside0.mk (show (0 : Int) + firstR (l.take l.length).reverse n0 = first l n0 by simp [first])
  clear hr hb
  go_enter Tryd.func76, Tryd.ntmps76
  go_wp2
  clear hbox
  go_loopg [0, 3, 4] l.length (fun kx s0 s3 s4 wr => ∃ (n sum : Int) (k : Nat), s0 = .int .i64 n ∧ s3 = .int .i64 sum ∧ s4 = .int .i64 ((k : Int) - 1) ∧ k ≤ kx ∧ k ≤ l.length ∧ 0 ≤ n ∧ n ≤ 86400 ∧ 0 ≤ sum ∧ sum ≤ (86400 - n) * 1000000 ∧ Aside0 (sum + firstR (l.take k).reverse n = first l n0) ∧ Aside0 (Below w.heap.size w wr))
  case atStart => exact ⟨n0, 0, l.length, rfl, rfl, rfl, Nat.le_refl _, Nat.le_refl _, h0, h1, Int.le_refl _, by omega, S0, B0⟩
  case round =>
    clear B0 S0
    obtain ⟨n, sum, k, rfl, rfl, rfl, hkx, hkl, hn0, hn1, hs0, hs1, HS, B1⟩ := hrel
    have hbox := (B1.out.cell (World.block_lt_of_cell? w _ BX.out)).trans BX.out
    cases k with
    | zero =>
      go_wp2
      go_ret
      exact ⟨by have := HS.out; simp only [List.take_zero, List.reverse_nil, firstR_nil, Int.add_zero] at this; rw [this]; rfl, B1.out⟩
    | succ k =>
      obtain ⟨g0, g1, g2, g3⟩ := HB.out k (by omega)
      obtain ⟨ad, e1, c1, c2⟩ := at_T70 HR.out (k : Int) (by omega) (by omega)
      cases e1
      replace c1 := (B1.out.cell (World.block_lt_of_cell? w _ c1)).trans c1
      replace c2 := (B1.out.cell (World.block_lt_of_cell? w _ c2)).trans c2
      rw [Int.toNat_natCast] at c1 c2
      have hs := HS.out
      rw [take_last l k (by omega)] at hs
      obtain ⟨x, hx⟩ : ∃ x, rd_T70 l (k : Int) = x := ⟨_, rfl⟩
      rw [hx] at c1 c2 g0 g1 g2 g3 hs
      obtain ⟨x0, x1⟩ := x
      simp only at c1 c2 g0 g1 g2 g3
      clear hx HS
      have hk : (((k + 1 : Nat) : Int) - 1) = (k : Int) := by omega
      rw [hk]
      clear hk
      by_cases hlt : x0 < n
      · rw [firstR_yes _ hlt] at hs
        simp only at hs
        have HS := Aside0.mk hs
        clear hs
        obtain ⟨m0, m1⟩ := mul_bd (n - x0) x1 (by omega) g2 g3
        go_wp2
        go_roundg k
        case measure => omega
        case rel =>
          refine ⟨x0, sum + (n - x0) * x1, k, rfl, rfl, rfl, Nat.le_refl _, by omega, g0, by omega, by omega, ?_, ⟨by rw [← HS.out]; omega⟩, ⟨?_⟩⟩
          · have : (n - x0) * 1000000 + (86400 - n) * 1000000 = (86400 - x0) * 1000000 := by omega
            omega
          · repeat (first | exact B1.out | apply below_alloc | apply below_drew)
      · rw [firstR_no _ hlt] at hs
        have HS := Aside0.mk hs
        clear hs
        go_wp2
        go_roundg k
        case measure => omega
        case rel => exact ⟨n, sum, k, rfl, rfl, rfl, Nat.le_refl _, by omega, hn0, hn1, hs0, hs1, HS, ⟨by repeat (first | exact B1.out | apply below_alloc | apply below_drew)⟩⟩

set_option maxHeartbeats 4000000 in
set_option maxRecDepth 100000 in
theorem tariff_until.calls (A0_0 : Option Addr) (c0_0 : Nat) (l0_0 : List S70) (a1 : Int) (r : Int) (w : World) (hr0_0 : Kd.C k70 w A0_0 l0_0.length l0_0) (hc0_0 : l0_0.length ≤ c0_0) (h : tariff_until.f l0_0 a1 = some r) :
    Calls Tryd.prog 52 #[.agg #[.slice A0_0 l0_0.length c0_0], .int .i64 a1] w fun e w' => e = .returned (.int .i64 r) ∧ Below w.heap.size w w' := by
  have hu := Tryd.underlying24
  unfold tariff_until.f at h
  by_cases hg : good l0_0 = true ∧ 0 ≤ a1 ∧ a1 ≤ 1099511627776
  · rw [if_pos hg] at h
    obtain rfl := Option.some.inj h
    obtain ⟨hg, h2, h3⟩ := hg
    obtain ⟨d0, d1⟩ := first_bd hg 86400 (by omega)
    obtain ⟨e0, e1⟩ := first_bd hg (a1 % 86400) (by omega)
    have hc := fun (n : Int) (h0 : 0 ≤ n) (h1 : n ≤ 86400) (W : World) (hW : Below w.heap.size w W) (hx : W.cell? ⟨w.heap.size, 0, none⟩ = some (.slice A0_0 l0_0.length c0_0)) => until1_calls A0_0 c0_0 l0_0 n w.heap.size W (Kd.C_below hr0_0 hW) (good_len hg).2 h0 h1 (fun j hj => by have := good_at hg j hj; omega) hx
    have HC := Aside0.mk hc
    clear hc h
    have hq : a1 / 86400 ≤ 12725829 := by omega
    have hq0 : 0 ≤ a1 / 86400 := by omega
    have T := Aside0.mk (show totalP l0_0 a1 = a1 / 86400 * first l0_0 86400 + first l0_0 (a1 % 86400) from rfl)
    obtain ⟨p0, p1⟩ : 0 ≤ a1 / 86400 * first l0_0 86400 ∧ a1 / 86400 * first l0_0 86400 ≤ 1099511625600000000 := ⟨Int.mul_nonneg hq0 d0, Int.le_trans (Int.mul_le_mul hq d1 d0 (by omega)) (by omega)⟩
    generalize totalP l0_0 a1 = tt at T ⊢
    go_enter Tryd.func52, Tryd.ntmps52
    have hn0 : (w.alloc (.cells #[.slice A0_0 l0_0.length c0_0] 24)).cell? ⟨w.heap.size, 0, none⟩ = some (.slice A0_0 l0_0.length c0_0) := by
      rw [World.cell?_alloc_at _ _ _ _ (by simp)]; rfl
    have N0 := Aside0.mk hn0
    clear hn0
    go_wp2_with fail
    refine (HC.out 86400 (by omega) (by omega) _ (below_alloc (Below.refl _ _) _) N0.out).mono ?_
    rintro e w1 ⟨rfl, hb1⟩
    have hW1 := Aside0.mk (below_step (below_alloc (Below.refl _ _) _) hb1)
    have hx1 := Aside0.mk ((hb1.cell (by simp)).trans N0.out)
    clear hb1
    go_wp2_with fail
    refine (HC.out (a1 % 86400) (by omega) (by omega) _ hW1.out hx1.out).mono ?_
    rintro e w2 ⟨rfl, hb2⟩
    have hW2 := Aside0.mk (below_step hW1.out hb2)
    clear hb2
    go_wp2
    go_ret
    exact ⟨by rw [T.out]; rfl, hW2.out⟩
  · rw [if_neg hg] at h
    exact absurd h (by simp)
end Go.Proofs.YtldpacphackdjaaDoor.Print
/- That the call of function 19 (tariff_Price) answers what the Lean function of the same name answers, at every input at which that one answers. (Written by a program of the session, which drives the kit's printer.) -/
namespace Go.Proofs.YtldpacphackdjaaDoor.Print
open Go.RowKit Go.Proofs.YtldpacphackdjaaDoorW.PrintWords Go.Proofs.YtldpacphackdjaaDoorW.PrintLast Go.Proofs.YtldpacphackdjaaDoorW.PrintMore
attribute [local go_sem] max2_int min2_int max_two min_two max_three min_three max_four min_four   -- for this text's walks alone
set_option linter.unusedVariables false
set_option linter.unusedSimpArgs false

/-! ### tariff_Price: function 19 -/
def tariff_Price.j0 : Nat → Int → Int → Bool → List (S70) → Option (Int × Int)
 | 0, _, _, _, _ => none
 | k + 1, x1, x2, x24, x110000 => if x24 = true then (some (0, 1)) else ((tariff_until.f x110000 x2).bind fun t111 => ((tariff_until.f x110000 x1).bind fun t112 => (some (wrap64 (t111 - t112), 0))))
def tariff_Price.f (k : Nat) (l0_0 : List (S70)) (a1 : Int) (a2 : Int) : Option (Int × Int) := (tariff_Check.f k l0_0).bind fun t110 => (if t110 = 0 then (if a1 < 0 then (tariff_Price.j0 k a1 a2 true l0_0) else (if a2 < a1 then (tariff_Price.j0 k a1 a2 true l0_0) else (tariff_Price.j0 k a1 a2 (decide (a2 > 1099511627776)) l0_0))) else (some (0, t110)))
def tariff_Price.T6 : Bool × List (List Nat × List Nat) := (true, [([], []), ([], []), ([0, 1], [0, 1]), ([], []), ([], []), ([3, 4, 2], [3, 4]), ([2, 5], [2, 5]), ([6, 5, 0, 1, 2, 3, 4, 5, 6], [6]), ([7, 0, 1, 2, 3, 4, 5, 6, 7], [])])
def tariff_Price.B6 : List Nat := [0, 0, 3, 0, 0, 31, 63, 127, 255]
theorem tariff_Price.tab6 : rtab .any (opsOf Tryd.f19 6) = tariff_Price.T6 := by kernel_rfl
theorem tariff_Price.bits6 : waitsOk tariff_Price.T6.2 tariff_Price.B6 = true := by kernel_rfl
set_option maxHeartbeats 8000000 in
set_option maxRecDepth 100000 in
theorem tariff_Price.calls (k : Nat) (A0_0 : Option Addr) (c0_0 : Nat) (l0_0 : List (S70)) (a1 : Int) (a2 : Int) (r1 : Int) (r2 : Int) (w : World) (hr0_0 : Kd.C k70 w A0_0 l0_0.length l0_0) (hc0_0 : l0_0.length ≤ c0_0) (h : tariff_Price.f k l0_0 a1 a2 = some (r1, r2)) :
  Calls Tryd.prog 19 #[.agg #[.slice A0_0 l0_0.length c0_0], .int .i64 a1, .int .i64 a2] w fun e w' => e = .returned (.tuple #[.int .i64 r1, .int .i64 r2]) ∧ Below w.heap.size w w' := by
 have hu24 := Tryd.underlying24
 have HR0_0 := Aside0.mk hr0_0
 have HC0_0 := Aside0.mk hc0_0
 clear hr0_0 hc0_0
 have HB := Aside0.mk (Below.refl w.heap.size w)
 have H : ((tariff_Check.f k l0_0).bind fun t110 => (if t110 = 0 then (if a1 < 0 then (tariff_Price.j0 k a1 a2 true l0_0) else (if a2 < a1 then (tariff_Price.j0 k a1 a2 true l0_0) else (tariff_Price.j0 k a1 a2 (decide (a2 > 1099511627776)) l0_0))) else (some (0, t110)))) = some (r1, r2) := h
 clear h
 replace H := Option.bind_eq_some_iff.mp H
 obtain ⟨t110, A40, H⟩ := H
 replace H : (if t110 = 0 then (if a1 < 0 then (tariff_Price.j0 k a1 a2 true l0_0) else (if a2 < a1 then (tariff_Price.j0 k a1 a2 true l0_0) else (tariff_Price.j0 k a1 a2 (decide (a2 > 1099511627776)) l0_0))) else (some (0, t110))) = some (r1, r2) := H
 have A4 := Aside0.mk A40
 clear A40
 by_cases c5 : t110 = 0
 ·rw [if_pos c5] at H
  have c5b0 : (t110 == 0) = true := beq_iff_eq.mpr c5
  have c5b1 : (t110 != 0) = false := bne_eq_false_iff_eq.mpr c5
  clear c5
  have HC6 := Aside0.mk H
  clear H
  go_enter Tryd.func19, Tryd.ntmps19
  go_upto_region 4 with (first | ((with_reducible refine gate_dst (N := 3) rfl ?_); refine box_event ?hg (N := 3) ?hd (cs := #[.slice A0_0 l0_0.length c0_0]) (t := 24) ?hr ?_; (case hd => rfl); (case hg => rfl); (case hr => first | (go_simp; done) | (go_simp; rfl)); intro gb109 hg w7 hbox hb; have n0_ := ls0 HB hb; have n1_ := Aside0.mk (hbox); have n2_ := Aside0.mk ((by rw [hg]; exact (below_size (lb0 HB)) : w.heap.size ≤ gb109)); have n3_ := Aside0.mk ((by rw [hg]; exact (below_size (lb0 HB)) : w.heap.size ≤ gb109)); clear HB; have HB := n0_; have BK109 := n1_; have GW109 := n2_; have GE109 := n3_; clear n0_ n1_ n2_ n3_; clear hb hbox hg; have hcz8_0 := bc BK109 0; have hfz8_0 := blk_frozen BK109.out 0) | ((with_reducible refine gate_callee (f := 12) rfl ?_); refine goesL_ (some 10) rfl rfl Tryd.func12 (by kernel_rfl) rfl #[.agg #[.slice A0_0 l0_0.length c0_0]] rfl (by (try simp only [List.map_toArray, List.map_cons, List.map_nil]); first | done | rfl | (simp only [List.length_drop, List.length_take]; rfl)) ?_; (with_reducible refine (tariff_Check.calls k _ _ l0_0 t110 _ ?side1 ?side2 A4.out).mono ?_); (case side1 => repeat (first | exact (Kd.C_below HR0_0.out HB.out) | (with_reducible refine Kd.C_alloc ?_ _) | (with_reducible refine Kd.C_drewN ?_ _) | (with_reducible refine Kd.C_drew ?_))); (case side2 => exact HC0_0.out); rintro e w9 ⟨rfl, hb⟩; refine ⟨_, rfl, ?_⟩; have n0_ := kl BK109 hb; have n1_ := ls1 HB GE109 hb; clear BK109; clear HB; have BK109 := n0_; have HB := n1_; clear n0_ n1_; (try clear hb); (try clear hb2); (try clear hk); (try clear hi)))
  (try simp only [Act.put, List.setIfInBounds_toArray, List.set_cons_zero, List.set_cons_succ])
  go_cut [24] (fun v24 wc => ∃ (kq : Nat) (x24_5 : Bool), v24 = .bool x24_5 ∧ Aside0 (tariff_Price.j0 kq a1 a2 x24_5 l0_0 = some (r1, r2)) ∧ Aside0 (kq ≤ k) ∧ Aside0 (wc.heap[gb109]? = some (.cells #[(.slice A0_0 l0_0.length c0_0)] 24 (0, 0))) ∧ Aside0 (Below w.heap.size w wc))
  case first =>
   have H := HC6.out
   clear HC6
   by_cases c10 : a1 < 0
   ·rw [if_pos c10] at H
    have c10b0 : decide (a1 < 0) = true := decide_eq_true c10
    clear c10
    (first | rw [c10b0] | (simp only [i64_w, i32_w]; rw [c10b0]) | skip)
    have H' := Aside0.mk H
    clear H
    go_wp2
    go_meet
    case rel => exact ⟨_, (true), (by first | rfl | (simp; done) | (simp [*]; done)), H', ⟨by first | omega | exact Nat.le_refl _⟩, ⟨kb BK109⟩, ⟨lb1 HB GE109⟩⟩
   ·rw [if_neg c10] at H
    have c10b0 : decide (a1 < 0) = false := decide_eq_false c10
    clear c10
    (first | rw [c10b0] | (simp only [i64_w, i32_w]; rw [c10b0]) | skip)
    by_cases c11 : a2 < a1
    ·rw [if_pos c11] at H
     have c11b0 : decide (a2 < a1) = true := decide_eq_true c11
     clear c11
     have H' := Aside0.mk H
     clear H
     go_wp2
     go_meet
     case rel => exact ⟨_, (true), (by first | rfl | (simp; done) | (simp [*]; done)), H', ⟨by first | omega | exact Nat.le_refl _⟩, ⟨kb BK109⟩, ⟨lb1 HB GE109⟩⟩
    ·rw [if_neg c11] at H
     have c11b0 : decide (a2 < a1) = false := decide_eq_false c11
     clear c11
     have H' := Aside0.mk H
     clear H
     go_wp2
     go_meet
     case rel => exact ⟨_, (decide (a2 > 1099511627776)), (by first | rfl | (simp; done) | (simp [*]; done)), H', ⟨by first | omega | exact Nat.le_refl _⟩, ⟨kb BK109⟩, ⟨lb1 HB GE109⟩⟩
  case rest =>
   clear HC6
   try clear c1; try clear p2; try clear c5; try clear c5b0; try clear c5b1; try clear c10; try clear c10b0; try clear c11; try clear c11b0; try clear hcz8_0; try clear hfz8_0
   obtain ⟨kq, x24_5, rfl, HA, HJ5, BK109, HB⟩ := hcut
   cases kq with
   | zero => exact absurd HA.out (by simp [tariff_Price.j0])
   | succ kj5 =>
    have H := HA.out
    clear HA
    simp only [tariff_Price.j0] at H
    by_cases c12 : x24_5 = true
    ·subst c12
     have H1 : (some (0, 1)) = some (r1, r2) := by rw [if_pos rfl] at H; exact H
     clear H
     have H := H1
     clear H1
     simp only [Option.some.injEq, Prod.mk.injEq] at H
     obtain ⟨rfl, rfl⟩ := H
     go_wp2
     go_ret2
     exact ⟨by first | rfl | (simp [errW_none, errW_some] <;> rfl) | (simp [*, errW_none, errW_some] <;> rfl), lb1 HB GE109⟩
    ·replace c12 := Bool.eq_false_iff.mpr c12
     subst c12
     have H1 : ((tariff_until.f l0_0 a2).bind fun t111 => ((tariff_until.f l0_0 a1).bind fun t112 => (some (wrap64 (t111 - t112), 0)))) = some (r1, r2) := by rw [if_neg (show ¬ (false = true) by decide)] at H; exact H
     clear H
     have H := H1
     clear H1
     replace H := Option.bind_eq_some_iff.mp H
     obtain ⟨t111, A130, H⟩ := H
     replace H : ((tariff_until.f l0_0 a1).bind fun t112 => (some (wrap64 (t111 - t112), 0))) = some (r1, r2) := H
     have A13 := Aside0.mk A130
     clear A130
     replace H := Option.bind_eq_some_iff.mp H
     obtain ⟨t112, A140, H⟩ := H
     replace H : (some (wrap64 (t111 - t112), 0)) = some (r1, r2) := H
     have A14 := Aside0.mk A140
     clear A140
     simp only [Option.some.injEq, Prod.mk.injEq] at H
     obtain ⟨rfl, rfl⟩ := H
     try go_wp2
     have n0_ := Aside0.mk (blk_drew BK109.out)
     have n1_ := Aside0.mk (below_drew1 HB.out)
     clear BK109
     clear HB
     have BK109 := n0_
     have HB := n1_
     clear n0_ n1_
     refine start_ (n := 9) (S := fun w' => w'.cell? ⟨gb109, 0, none⟩ = some (.slice A0_0 l0_0.length c0_0)) (ds := []) #[false, false, false, false, false, false, false, false, false] (by kernel_rfl) rfl rfl ((blk_cell BK109.out 0).trans rfl) (fun hHeld => ?_); refine with_tabW tariff_Price.tab6 tariff_Price.bits6 (fun HT_ HW_ => ?_)
     generalize wc.drew = w15 at BK109 HB hHeld ⊢
     refine p_ 1 26 HT_ ?_
     refine p_ 4 29 HT_ ?_
     refine take_ (i := 0) (N := some 25) (v := ?_) (a' := ?_) #[true, true, false, false, true, false, false, false, false] rfl rfl (take_ofW HT_.out HW_.out (by kernel_rfl)) (fun _ _ _ h => h) (Or.inl ⟨by rfl, ?_⟩) hHeld ?_ ?_
     rotate_left
     ·intro w' s0
      go_simp
      with_reducible rfl
     rotate_left
     ·simp only [Act.put, List.setIfInBounds_toArray, List.set_cons_zero, List.set_cons_succ, i64_w, i32_w]
      rfl
     refine take_ (i := 3) (N := some 28) (v := ?_) (a' := ?_) #[true, true, false, true, true, false, false, false, false] rfl rfl (take_ofW HT_.out HW_.out (by kernel_rfl)) (fun _ _ _ h => h) (Or.inl ⟨by rfl, ?_⟩) hHeld ?_ ?_
     rotate_left
     ·intro w' s0
      go_simp
      with_reducible rfl
     rotate_left
     ·simp only [Act.put, List.setIfInBounds_toArray, List.set_cons_zero, List.set_cons_succ, i64_w, i32_w]
      rfl
     refine o_ 2 27 HT_ (fun K hK => ?_)
     refine goes_ Tryd.func52 (by kernel_rfl) rfl #[.agg #[.slice A0_0 l0_0.length c0_0], .int .i64 a2] (by rfl) rfl rfl (by (try simp only [List.map_toArray, List.map_cons, List.map_nil]); first | done | rfl | (simp only [List.length_drop, List.length_take]; rfl)) ?_
     with_reducible refine (tariff_until.calls _ _ l0_0 a2 t111 _ ?side1 ?side2 A13.out).mono ?_
     (case side1 => repeat (first | exact (Kd.C_below HR0_0.out HB.out) | (with_reducible refine Kd.C_alloc ?_ _) | (with_reducible refine Kd.C_drewN ?_ _) | (with_reducible refine Kd.C_drew ?_)))
     (case side2 => exact HC0_0.out)
     rintro e w16 ⟨rfl, hb⟩
     refine ⟨_, rfl, ?_⟩
     have n0_ := kl BK109 hb
     have n1_ := ls1 HB GE109 hb
     clear BK109
     clear HB
     have BK109 := n0_
     have HB := n1_
     clear n0_ n1_
     (try clear hb)
     (try clear hb2)
     (try clear hk)
     (try clear hi)
     refine hK.out _ _ ((blk_cell BK109.out 0).trans rfl) (fun hHeld => ?_)
     clear hK K
     refine n_ 27 ?_
     refine o_ 5 30 HT_ (fun K hK => ?_)
     refine goes_ Tryd.func52 (by kernel_rfl) rfl #[.agg #[.slice A0_0 l0_0.length c0_0], .int .i64 a1] (by rfl) rfl rfl (by (try simp only [List.map_toArray, List.map_cons, List.map_nil]); first | done | rfl | (simp only [List.length_drop, List.length_take]; rfl)) ?_
     with_reducible refine (tariff_until.calls _ _ l0_0 a1 t112 _ ?side1 ?side2 A14.out).mono ?_
     (case side1 => repeat (first | exact (Kd.C_below HR0_0.out HB.out) | (with_reducible refine Kd.C_alloc ?_ _) | (with_reducible refine Kd.C_drewN ?_ _) | (with_reducible refine Kd.C_drew ?_)))
     (case side2 => exact HC0_0.out)
     rintro e w17 ⟨rfl, hb⟩
     refine ⟨_, rfl, ?_⟩
     have n0_ := kl BK109 hb
     have n1_ := ls1 HB GE109 hb
     clear BK109
     clear HB
     have BK109 := n0_
     have HB := n1_
     clear n0_ n1_
     (try clear hb)
     (try clear hb2)
     (try clear hk)
     (try clear hi)
     refine hK.out _ _ ((blk_cell BK109.out 0).trans rfl) (fun hHeld => ?_)
     clear hK K
     refine n_ 30 ?_
     refine p_ 6 31 HT_ ?_
     refine p_ 7 6 HT_ ?_
     refine p_ 8 7 HT_ ?_
     refine done_ (done_of HT_.out (by kernel_rfl)) ?_
     try go_wp2
     go_ret2
     exact ⟨by first | rfl | (simp [errW_none, errW_some] <;> rfl) | (simp [*, errW_none, errW_some] <;> rfl), lb1 HB GE109⟩
 ·rw [if_neg c5] at H
  have c5b0 : (t110 == 0) = false := beq_eq_false_iff_ne.mpr c5
  have c5b1 : (t110 != 0) = true := bne_iff_ne.mpr c5
  simp only [Option.some.injEq, Prod.mk.injEq] at H
  obtain ⟨rfl, rfl⟩ := H
  go_enter Tryd.func19, Tryd.ntmps19
  go_wp2_with (first | ((with_reducible refine gate_dst (N := 3) rfl ?_); refine box_event ?hg (N := 3) ?hd (cs := #[.slice A0_0 l0_0.length c0_0]) (t := 24) ?hr ?_; (case hd => rfl); (case hg => rfl); (case hr => first | (go_simp; done) | (go_simp; rfl)); intro gb109 hg w18 hbox hb; have n0_ := ls0 HB hb; have n1_ := Aside0.mk (hbox); have n2_ := Aside0.mk ((by rw [hg]; exact (below_size (lb0 HB)) : w.heap.size ≤ gb109)); have n3_ := Aside0.mk ((by rw [hg]; exact (below_size (lb0 HB)) : w.heap.size ≤ gb109)); clear HB; have HB := n0_; have BK109 := n1_; have GW109 := n2_; have GE109 := n3_; clear n0_ n1_ n2_ n3_; clear hb hbox hg; have hcz19_0 := bc BK109 0; have hfz19_0 := blk_frozen BK109.out 0) | ((with_reducible refine gate_callee (f := 12) rfl ?_); refine goesL_ (some 10) rfl rfl Tryd.func12 (by kernel_rfl) rfl #[.agg #[.slice A0_0 l0_0.length c0_0]] rfl (by (try simp only [List.map_toArray, List.map_cons, List.map_nil]); first | done | rfl | (simp only [List.length_drop, List.length_take]; rfl)) ?_; (with_reducible refine (tariff_Check.calls k _ _ l0_0 t110 _ ?side1 ?side2 A4.out).mono ?_); (case side1 => repeat (first | exact (Kd.C_below HR0_0.out HB.out) | (with_reducible refine Kd.C_alloc ?_ _) | (with_reducible refine Kd.C_drewN ?_ _) | (with_reducible refine Kd.C_drew ?_))); (case side2 => exact HC0_0.out); rintro e w20 ⟨rfl, hb⟩; refine ⟨_, rfl, ?_⟩; have n0_ := kl BK109 hb; have n1_ := ls1 HB GE109 hb; clear BK109; clear HB; have BK109 := n0_; have HB := n1_; clear n0_ n1_; (try clear hb); (try clear hb2); (try clear hk); (try clear hi)))
  go_ret2
  exact ⟨by first | rfl | (simp [errW_none, errW_some] <;> rfl) | (simp [*, errW_none, errW_some] <;> rfl), lb1 HB GE109⟩

end Go.Proofs.YtldpacphackdjaaDoor.Print
