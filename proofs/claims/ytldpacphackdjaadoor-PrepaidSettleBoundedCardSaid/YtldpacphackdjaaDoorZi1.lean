/- Parts of the proofs of layer 28's laws, joined in one file by a program of the session; each part begins with its own sentence. -/
import Derived.Test.YtldpacphackdjaaDoorZaSq
import Derived.Test.YtldpacphackdjaaDoorZaHPSettle
import Derived.Test.YtldpacphackdjaaDoorZaK0
import Derived.Test.YtldpacphackdjaaDoorZaF21
import Derived.Test.YtldpacphackdjaaDoorZa6
/- That the call of function 7 (crossbarlaw28_PrepaidSettleBounded) answers what the Lean function of the same name answers, at every input at which that one answers. (Written by a program of the session, which drives the kit's printer.) -/
namespace Go.Proofs.YtldpacphackdjaaDoor.Print
open Go.RowKit Go.Proofs.YtldpacphackdjaaDoorW.PrintWords Go.Proofs.YtldpacphackdjaaDoorW.PrintLast Go.Proofs.YtldpacphackdjaaDoorW.PrintMore
attribute [local go_sem] max2_int min2_int max_two min_two max_three min_three max_four min_four   -- for this text's walks alone
set_option linter.unusedVariables false
set_option linter.unusedSimpArgs false

/-! ### crossbarlaw28_PrepaidSettleBounded: function 7 -/
def crossbarlaw28_PrepaidSettleBounded.f (k : Nat) (a0_0 : ByteArray) (a0_1 : Int) (l0_2 : List (S54)) (a1 : Int) (a2 : Int) : Option (Bool) := (crossbarlaw28_sane.f k).bind fun t330 => (if t330 = true then ((crossbarref28_Few.f a0_0 a0_1 l0_2 ([] : List (S70))).bind fun t331 => (if t331 = true then ((prepaid_Settle.f a0_0 a0_1 l0_2 a1 a2).bind fun bt332 => (if bt332.2.2.2 = 0 then ((crossbarref28_Find.f k a0_0 a0_1 l0_2 a1).bind fun t339 => ((prepaid_Settle.f bt332.1 bt332.2.1 bt332.2.2.1 a1 a2).bind fun bt340 => (if t339 < 0 then (some false) else (if bt340.2.2.2 = 1 then (if (bt332.2.2.1.length : Int) = (wrap64 ((l0_2.length : Int) - 1)) then (if 0 ≤ t339 then (if t339 < (l0_2.length : Int) then ((prepaid_Settle.f a0_0 a0_1 l0_2 a1 ((rd_T54 l0_2 t339).f1)).bind fun bt348 => (if bt348.2.2.2 = 0 then (if bt348.2.1 = a0_1 then (some (bt332.2.1 == (mx 0 (wrap64 ((wrap64 (a0_1 + ((rd_T54 l0_2 t339).f1))) - a2))))) else (some false)) else (some false))) else (none)) else (none)) else (some false)) else (some false))))) else (if bt332.2.1 = 0 then (some ((bt332.2.2.1.length : Int) == 0)) else (some false)))) else (some true))) else (some false))
def crossbarlaw28_PrepaidSettleBounded.T12 : Bool × List (List Nat × List Nat) := (true, [([], []), ([], []), ([], []), ([2], [2]), ([], []), ([3, 4], [3, 4]), ([5], [5]), ([6], [6]), ([0, 1, 7], [0, 1, 7]), ([8], [8]), ([9], [9]), ([9], [9]), ([], []), ([12, 10, 8, 0, 1, 2, 3, 4, 5, 6, 7, 8, 9, 10, 12], [10, 12]), ([11, 13, 0, 1, 2, 3, 4, 5, 6, 7, 8, 9, 10, 11, 12, 13], [11])])
def crossbarlaw28_PrepaidSettleBounded.B12 : List Nat := [0, 0, 0, 4, 0, 28, 60, 124, 255, 511, 1023, 1023, 0, 6143, 16383]
theorem crossbarlaw28_PrepaidSettleBounded.tab12 : rtab .any (opsOf Tryd.f7 12) = crossbarlaw28_PrepaidSettleBounded.T12 := by kernel_rfl
theorem crossbarlaw28_PrepaidSettleBounded.bits12 : waitsOk crossbarlaw28_PrepaidSettleBounded.T12.2 crossbarlaw28_PrepaidSettleBounded.B12 = true := by kernel_rfl
def crossbarlaw28_PrepaidSettleBounded.T13 : Bool × List (List Nat × List Nat) := (true, [([], []), ([0], [0]), ([1], [1]), ([2], [2]), ([3, 2], [2, 3]), ([2], [2]), ([5, 2], [2, 5]), ([4, 6, 2], [2, 4, 6]), ([2, 7], [2, 7]), ([8, 2], [8]), ([9], [9]), ([10, 9], [9, 10]), ([9], [9]), ([12, 9], [9, 12]), ([9], [9]), ([14, 9], [9, 14]), ([9], [9]), ([15, 16, 9], [9, 15, 16]), ([17, 9], [9, 17]), ([18, 9], [9, 18]), ([13, 19, 9], [9, 13, 19]), ([9], [9]), ([20, 21, 9], [9, 20, 21]), ([22, 9], [9, 22]), ([11, 23, 9], [9, 11, 23]), ([9, 24], [9, 24]), ([25, 9, 0, 1, 2, 3, 4, 5, 6, 7, 8, 9, 10, 11, 12, 13, 14, 15, 16, 17, 18, 19, 20, 21, 22, 23, 24, 25], [25])])
def crossbarlaw28_PrepaidSettleBounded.B13 : List Nat := [0, 1, 3, 7, 15, 7, 39, 127, 255, 511, 1023, 2047, 1023, 5119, 1023, 17407, 1023, 115711, 246783, 508927, 1045503, 1023, 4191231, 8385535, 16777215, 33554431, 67108863]
theorem crossbarlaw28_PrepaidSettleBounded.tab13 : rtab .any (opsOf Tryd.f7 13) = crossbarlaw28_PrepaidSettleBounded.T13 := by kernel_rfl
theorem crossbarlaw28_PrepaidSettleBounded.bits13 : waitsOk crossbarlaw28_PrepaidSettleBounded.T13.2 crossbarlaw28_PrepaidSettleBounded.B13 = true := by kernel_rfl
set_option maxHeartbeats 8000000 in
set_option maxRecDepth 100000 in
theorem crossbarlaw28_PrepaidSettleBounded.calls (k : Nat) (a0_0 : ByteArray) (a0_1 : Int) (A0_2 : Option Addr) (c0_2 : Nat) (l0_2 : List (S54)) (a1 : Int) (a2 : Int) (r : Bool) (w : World) (hr0_2 : Kd.C k54 w A0_2 l0_2.length l0_2) (hc0_2 : l0_2.length ≤ c0_2) (h : crossbarlaw28_PrepaidSettleBounded.f k a0_0 a0_1 l0_2 a1 a2 = some r) (hT : r = true := by rfl) :
  Calls Tryd.prog 7 #[.agg #[.string a0_0, .int .i64 a0_1, .slice A0_2 l0_2.length c0_2], .int .i64 a1, .int .i64 a2] w fun e w' => e = .returned (.bool r) ∧ Below w.heap.size w w' := by
 have HT_TRUE := Aside0.mk hT
 clear hT
 have hu31 := Tryd.underlying31
 have hu24 := Tryd.underlying24
 have HR0_2 := Aside0.mk hr0_2
 have HC0_2 := Aside0.mk hc0_2
 clear hr0_2 hc0_2
 have HB := Aside0.mk (Below.refl w.heap.size w)
 have H : ((crossbarlaw28_sane.f k).bind fun t330 => (if t330 = true then ((crossbarref28_Few.f a0_0 a0_1 l0_2 ([] : List (S70))).bind fun t331 => (if t331 = true then ((prepaid_Settle.f a0_0 a0_1 l0_2 a1 a2).bind fun bt332 => (if bt332.2.2.2 = 0 then ((crossbarref28_Find.f k a0_0 a0_1 l0_2 a1).bind fun t339 => ((prepaid_Settle.f bt332.1 bt332.2.1 bt332.2.2.1 a1 a2).bind fun bt340 => (if t339 < 0 then (some false) else (if bt340.2.2.2 = 1 then (if (bt332.2.2.1.length : Int) = (wrap64 ((l0_2.length : Int) - 1)) then (if 0 ≤ t339 then (if t339 < (l0_2.length : Int) then ((prepaid_Settle.f a0_0 a0_1 l0_2 a1 ((rd_T54 l0_2 t339).f1)).bind fun bt348 => (if bt348.2.2.2 = 0 then (if bt348.2.1 = a0_1 then (some (bt332.2.1 == (mx 0 (wrap64 ((wrap64 (a0_1 + ((rd_T54 l0_2 t339).f1))) - a2))))) else (some false)) else (some false))) else (none)) else (none)) else (some false)) else (some false))))) else (if bt332.2.1 = 0 then (some ((bt332.2.2.1.length : Int) == 0)) else (some false)))) else (some true))) else (some false))) = some r := h
 clear h
 replace H := Option.bind_eq_some_iff.mp H
 obtain ⟨t330, A40, H⟩ := H
 replace H : (if t330 = true then ((crossbarref28_Few.f a0_0 a0_1 l0_2 ([] : List (S70))).bind fun t331 => (if t331 = true then ((prepaid_Settle.f a0_0 a0_1 l0_2 a1 a2).bind fun bt332 => (if bt332.2.2.2 = 0 then ((crossbarref28_Find.f k a0_0 a0_1 l0_2 a1).bind fun t339 => ((prepaid_Settle.f bt332.1 bt332.2.1 bt332.2.2.1 a1 a2).bind fun bt340 => (if t339 < 0 then (some false) else (if bt340.2.2.2 = 1 then (if (bt332.2.2.1.length : Int) = (wrap64 ((l0_2.length : Int) - 1)) then (if 0 ≤ t339 then (if t339 < (l0_2.length : Int) then ((prepaid_Settle.f a0_0 a0_1 l0_2 a1 ((rd_T54 l0_2 t339).f1)).bind fun bt348 => (if bt348.2.2.2 = 0 then (if bt348.2.1 = a0_1 then (some (bt332.2.1 == (mx 0 (wrap64 ((wrap64 (a0_1 + ((rd_T54 l0_2 t339).f1))) - a2))))) else (some false)) else (some false))) else (none)) else (none)) else (some false)) else (some false))))) else (if bt332.2.1 = 0 then (some ((bt332.2.2.1.length : Int) == 0)) else (some false)))) else (some true))) else (some false)) = some r := H
 have A4 := Aside0.mk A40
 clear A40
 by_cases c5 : t330 = true
 ·subst c5
  have H1 : ((crossbarref28_Few.f a0_0 a0_1 l0_2 ([] : List (S70))).bind fun t331 => (if t331 = true then ((prepaid_Settle.f a0_0 a0_1 l0_2 a1 a2).bind fun bt332 => (if bt332.2.2.2 = 0 then ((crossbarref28_Find.f k a0_0 a0_1 l0_2 a1).bind fun t339 => ((prepaid_Settle.f bt332.1 bt332.2.1 bt332.2.2.1 a1 a2).bind fun bt340 => (if t339 < 0 then (some false) else (if bt340.2.2.2 = 1 then (if (bt332.2.2.1.length : Int) = (wrap64 ((l0_2.length : Int) - 1)) then (if 0 ≤ t339 then (if t339 < (l0_2.length : Int) then ((prepaid_Settle.f a0_0 a0_1 l0_2 a1 ((rd_T54 l0_2 t339).f1)).bind fun bt348 => (if bt348.2.2.2 = 0 then (if bt348.2.1 = a0_1 then (some (bt332.2.1 == (mx 0 (wrap64 ((wrap64 (a0_1 + ((rd_T54 l0_2 t339).f1))) - a2))))) else (some false)) else (some false))) else (none)) else (none)) else (some false)) else (some false))))) else (if bt332.2.1 = 0 then (some ((bt332.2.2.1.length : Int) == 0)) else (some false)))) else (some true))) = some r := by rw [if_pos rfl] at H; exact H
  clear H
  have H := H1
  clear H1
  replace H := Option.bind_eq_some_iff.mp H
  obtain ⟨t331, A60, H⟩ := H
  replace H : (if t331 = true then ((prepaid_Settle.f a0_0 a0_1 l0_2 a1 a2).bind fun bt332 => (if bt332.2.2.2 = 0 then ((crossbarref28_Find.f k a0_0 a0_1 l0_2 a1).bind fun t339 => ((prepaid_Settle.f bt332.1 bt332.2.1 bt332.2.2.1 a1 a2).bind fun bt340 => (if t339 < 0 then (some false) else (if bt340.2.2.2 = 1 then (if (bt332.2.2.1.length : Int) = (wrap64 ((l0_2.length : Int) - 1)) then (if 0 ≤ t339 then (if t339 < (l0_2.length : Int) then ((prepaid_Settle.f a0_0 a0_1 l0_2 a1 ((rd_T54 l0_2 t339).f1)).bind fun bt348 => (if bt348.2.2.2 = 0 then (if bt348.2.1 = a0_1 then (some (bt332.2.1 == (mx 0 (wrap64 ((wrap64 (a0_1 + ((rd_T54 l0_2 t339).f1))) - a2))))) else (some false)) else (some false))) else (none)) else (none)) else (some false)) else (some false))))) else (if bt332.2.1 = 0 then (some ((bt332.2.2.1.length : Int) == 0)) else (some false)))) else (some true)) = some r := H
  have A6 := Aside0.mk A60
  clear A60
  by_cases c7 : t331 = true
  ·subst c7
   have H1 : ((prepaid_Settle.f a0_0 a0_1 l0_2 a1 a2).bind fun bt332 => (if bt332.2.2.2 = 0 then ((crossbarref28_Find.f k a0_0 a0_1 l0_2 a1).bind fun t339 => ((prepaid_Settle.f bt332.1 bt332.2.1 bt332.2.2.1 a1 a2).bind fun bt340 => (if t339 < 0 then (some false) else (if bt340.2.2.2 = 1 then (if (bt332.2.2.1.length : Int) = (wrap64 ((l0_2.length : Int) - 1)) then (if 0 ≤ t339 then (if t339 < (l0_2.length : Int) then ((prepaid_Settle.f a0_0 a0_1 l0_2 a1 ((rd_T54 l0_2 t339).f1)).bind fun bt348 => (if bt348.2.2.2 = 0 then (if bt348.2.1 = a0_1 then (some (bt332.2.1 == (mx 0 (wrap64 ((wrap64 (a0_1 + ((rd_T54 l0_2 t339).f1))) - a2))))) else (some false)) else (some false))) else (none)) else (none)) else (some false)) else (some false))))) else (if bt332.2.1 = 0 then (some ((bt332.2.2.1.length : Int) == 0)) else (some false)))) = some r := by rw [if_pos rfl] at H; exact H
   clear H
   have H := H1
   clear H1
   replace H := Option.bind_eq_some_iff.mp H
   obtain ⟨⟨t332, t333, t334, t337⟩, A80, H⟩ := H
   replace H : (if t337 = 0 then ((crossbarref28_Find.f k a0_0 a0_1 l0_2 a1).bind fun t339 => ((prepaid_Settle.f t332 t333 t334 a1 a2).bind fun bt340 => (if t339 < 0 then (some false) else (if bt340.2.2.2 = 1 then (if (t334.length : Int) = (wrap64 ((l0_2.length : Int) - 1)) then (if 0 ≤ t339 then (if t339 < (l0_2.length : Int) then ((prepaid_Settle.f a0_0 a0_1 l0_2 a1 ((rd_T54 l0_2 t339).f1)).bind fun bt348 => (if bt348.2.2.2 = 0 then (if bt348.2.1 = a0_1 then (some (t333 == (mx 0 (wrap64 ((wrap64 (a0_1 + ((rd_T54 l0_2 t339).f1))) - a2))))) else (some false)) else (some false))) else (none)) else (none)) else (some false)) else (some false))))) else (if t333 = 0 then (some ((t334.length : Int) == 0)) else (some false))) = some r := H
   have A8 := Aside0.mk A80
   clear A80
   by_cases c9 : t337 = 0
   ·rw [if_pos c9] at H
    have c9b0 : (t337 == 0) = true := beq_iff_eq.mpr c9
    have c9b1 : (t337 != 0) = false := bne_eq_false_iff_eq.mpr c9
    clear c9
    replace H := Option.bind_eq_some_iff.mp H
    obtain ⟨t339, A100, H⟩ := H
    replace H : ((prepaid_Settle.f t332 t333 t334 a1 a2).bind fun bt340 => (if t339 < 0 then (some false) else (if bt340.2.2.2 = 1 then (if (t334.length : Int) = (wrap64 ((l0_2.length : Int) - 1)) then (if 0 ≤ t339 then (if t339 < (l0_2.length : Int) then ((prepaid_Settle.f a0_0 a0_1 l0_2 a1 ((rd_T54 l0_2 t339).f1)).bind fun bt348 => (if bt348.2.2.2 = 0 then (if bt348.2.1 = a0_1 then (some (t333 == (mx 0 (wrap64 ((wrap64 (a0_1 + ((rd_T54 l0_2 t339).f1))) - a2))))) else (some false)) else (some false))) else (none)) else (none)) else (some false)) else (some false)))) = some r := H
    have A10 := Aside0.mk A100
    clear A100
    replace H := Option.bind_eq_some_iff.mp H
    obtain ⟨⟨t340, t341, t342, t345⟩, A110, H⟩ := H
    replace H : (if t339 < 0 then (some false) else (if t345 = 1 then (if (t334.length : Int) = (wrap64 ((l0_2.length : Int) - 1)) then (if 0 ≤ t339 then (if t339 < (l0_2.length : Int) then ((prepaid_Settle.f a0_0 a0_1 l0_2 a1 ((rd_T54 l0_2 t339).f1)).bind fun bt348 => (if bt348.2.2.2 = 0 then (if bt348.2.1 = a0_1 then (some (t333 == (mx 0 (wrap64 ((wrap64 (a0_1 + ((rd_T54 l0_2 t339).f1))) - a2))))) else (some false)) else (some false))) else (none)) else (none)) else (some false)) else (some false))) = some r := H
    have A11 := Aside0.mk A110
    clear A110
    by_cases c12 : t339 < 0
    ·rw [if_pos c12] at H
     have c12b0 : decide (t339 < 0) = true := decide_eq_true c12
     clear c12
     exact absurd ((Option.some.inj H).trans HT_TRUE.out) (by simp)
    ·rw [if_neg c12] at H
     have c12b0 : decide (t339 < 0) = false := decide_eq_false c12
     clear c12
     by_cases c13 : t345 = 1
     ·rw [if_pos c13] at H
      have c13b0 : (t345 == 1) = true := beq_iff_eq.mpr c13
      have c13b1 : (t345 != 1) = false := bne_eq_false_iff_eq.mpr c13
      clear c13
      by_cases c14 : (t334.length : Int) = (wrap64 ((l0_2.length : Int) - 1))
      ·rw [if_pos c14] at H
       have c14b0 : ((t334.length : Int) == (wrap64 ((l0_2.length : Int) - 1))) = true := beq_iff_eq.mpr c14
       have c14b1 : ((t334.length : Int) != (wrap64 ((l0_2.length : Int) - 1))) = false := bne_eq_false_iff_eq.mpr c14
       clear c14
       by_cases c15 : 0 ≤ t339
       ·rw [if_pos c15] at H
        have c15b0 : decide (0 ≤ t339) = true := decide_eq_true c15
        clear c15
        by_cases c16 : t339 < (l0_2.length : Int)
        ·rw [if_pos c16] at H
         have c16b0 : decide (t339 < (l0_2.length : Int)) = true := decide_eq_true c16
         clear c16
         replace H := Option.bind_eq_some_iff.mp H
         obtain ⟨⟨t348, t349, t350, t353⟩, A170, H⟩ := H
         replace H : (if t353 = 0 then (if t349 = a0_1 then (some (t333 == (mx 0 (wrap64 ((wrap64 (a0_1 + ((rd_T54 l0_2 t339).f1))) - a2))))) else (some false)) else (some false)) = some r := H
         have A17 := Aside0.mk A170
         clear A170
         by_cases c18 : t353 = 0
         ·rw [if_pos c18] at H
          have c18b0 : (t353 == 0) = true := beq_iff_eq.mpr c18
          have c18b1 : (t353 != 0) = false := bne_eq_false_iff_eq.mpr c18
          clear c18
          by_cases c19 : t349 = a0_1
          ·rw [if_pos c19] at H
           have c19b0 : (t349 == a0_1) = true := beq_iff_eq.mpr c19
           have c19b1 : (t349 != a0_1) = false := bne_eq_false_iff_eq.mpr c19
           clear c19
           obtain ⟨ji20, hji20⟩ : ∃ j_ : Int, (mx 0 (wrap64 ((wrap64 (a0_1 + ((rd_T54 l0_2 t339).f1))) - a2))) = j_ := ⟨_, rfl⟩
           replace H : (some (t333 == (ji20))) = some r := by first | (rw [hji20] at H; exact H) | (simp only [hji20] at H ⊢; exact H)
           (try rw [hji20] at A4)
           (try rw [hji20] at A6)
           (try rw [hji20] at A8)
           (try rw [hji20] at A10)
           (try rw [hji20] at A11)
           (try rw [hji20] at A17)
           (try (have hji20l : 0 ≤ ji20 := by (rw [← hji20]; unfold mx; (repeat' split) <;> omega)))
           (try (have hji20m : 0 ≤ ji20 := by omega))
           have hji20_ : (if 0 < (wrap64 ((wrap64 (a0_1 + ((rd_T54 l0_2 t339).f1))) - a2)) then (wrap64 ((wrap64 (a0_1 + ((rd_T54 l0_2 t339).f1))) - a2)) else 0) = ji20 := hji20
           obtain rfl := Option.some.inj H
           go_enter Tryd.func7, Tryd.ntmps7
           try go_wp2_with (first | ((with_reducible refine gate_dst (N := 3) rfl ?_); (try (refine gate_guard (by rfl) ?_; dsimp only)); refine box_event ?hg (N := 3) ?hd (cs := #[.string a0_0, .int .i64 a0_1, .slice A0_2 l0_2.length c0_2]) (t := 31) ?hr ?_; (case hd => rfl); (case hg => rfl); (case hr => first | (go_simp; done) | (go_simp; rfl)); intro gb329 hg w21 hbox hb; have n0_ := ls0 HB hb; have n1_ := Aside0.mk (hbox); have n2_ := Aside0.mk ((by rw [hg]; exact (below_size (lb0 HB)) : w.heap.size ≤ gb329)); have n3_ := Aside0.mk ((by rw [hg]; exact (below_size (lb0 HB)) : w.heap.size ≤ gb329)); clear HB; have HB := n0_; have BK329 := n1_; have GW329 := n2_; have GE329 := n3_; clear n0_ n1_ n2_ n3_; clear hb hbox hg) | ((with_reducible refine gate_callee (f := 21) rfl ?_); refine goesL_ (some 14) rfl rfl Tryd.func21 (by kernel_rfl) rfl #[] rfl (by (try simp only [List.map_toArray, List.map_cons, List.map_nil]); first | done | rfl | (simp only [List.length_drop, List.length_take]; rfl)) ?_; (with_reducible refine (crossbarlaw28_sane.calls k  true _ A4.out).mono ?_); rintro e w22 ⟨rfl, hb⟩; refine ⟨_, rfl, ?_⟩; have n0_ := kl BK329 hb; have n1_ := ls1 HB GE329 hb; clear BK329; clear HB; have BK329 := n0_; have HB := n1_; clear n0_ n1_; (try clear hb); (try clear hb2); (try clear hk); (try clear hi); have hcz23_0 := bc BK329 0; have hcz23_1 := bc BK329 1; have hcz23_2 := bc BK329 2; have hfz23_0 := blk_frozen BK329.out 0; have hfz23_1 := blk_frozen BK329.out 1; have hfz23_2 := blk_frozen BK329.out 2) | ((with_reducible refine gate_callee (f := 22) rfl ?_); refine goesL_ (some 18) rfl rfl Tryd.func22 (by kernel_rfl) rfl #[.agg #[.string a0_0, .int .i64 a0_1, .slice A0_2 l0_2.length c0_2], .agg #[.slice none 0 0]] rfl (by (try simp only [List.map_toArray, List.map_cons, List.map_nil]); first | done | rfl | (simp only [List.length_drop, List.length_take]; rfl)) ?_; (refine (crossbarref28_Few.calls a0_0 a0_1 _ _ l0_2 _ _ ([] : List (S70)) true _ ?side1 ?side2 ?side3 ?side4 A6.out).mono ?_); (case side1 => repeat (first | exact (Kd.C_below HR0_2.out HB.out) | (with_reducible refine Kd.C_alloc ?_ _) | (with_reducible refine Kd.C_drewN ?_ _) | (with_reducible refine Kd.C_drew ?_))); (case side2 => exact HC0_2.out); (case side3 => exact Kd.C_nil _ _); (case side4 => exact Nat.le_refl _); rintro e w24 ⟨rfl, hb⟩; refine ⟨_, rfl, ?_⟩; have n0_ := kl BK329 hb; have n1_ := ls1 HB GE329 hb; clear BK329; clear HB; have BK329 := n0_; have HB := n1_; clear n0_ n1_; (try clear hb); (try clear hb2); (try clear hk); (try clear hi); have hcz25_0 := bc BK329 0; have hcz25_1 := bc BK329 1; have hcz25_2 := bc BK329 2; have hfz25_0 := blk_frozen BK329.out 0; have hfz25_1 := blk_frozen BK329.out 1; have hfz25_2 := blk_frozen BK329.out 2) | ((with_reducible refine gate_callee (f := 20) rfl ?_); refine goesL_ (some 24) rfl rfl Tryd.func20 (by kernel_rfl) rfl #[.agg #[.string a0_0, .int .i64 a0_1, .slice A0_2 l0_2.length c0_2], .int .i64 a1, .int .i64 a2] rfl (by (try simp only [List.map_toArray, List.map_cons, List.map_nil]); first | done | rfl | (simp only [List.length_drop, List.length_take]; rfl)) ?_; (with_reducible refine (prepaid_Settle.calls a0_0 a0_1 _ _ l0_2 a1 a2 t332 t333 t334 t337 _ ?side1 ?side2 A8.out).mono ?_); (case side1 => repeat (first | exact (Kd.C_below HR0_2.out HB.out) | (with_reducible refine Kd.C_alloc ?_ _) | (with_reducible refine Kd.C_drewN ?_ _) | (with_reducible refine Kd.C_drew ?_))); (case side2 => exact HC0_2.out); rintro e w26 ⟨v335, rfl, ho0, hb⟩; refine ⟨_, rfl, ?_⟩; have n0_ := Aside0.mk (Kd.R_lower ho0 (below_size (lb1 HB GE329))); have n1_ := kl BK329 hb; have n2_ := ls1 HB GE329 hb; clear BK329; clear HB; have HO336 := n0_; have BK329 := n1_; have HB := n2_; clear n0_ n1_ n2_; (try clear hb); (try clear hb2); (try clear hk); (try clear hi); (try clear ho0)) | ((with_reducible refine gate_dst (N := 7) rfl ?_); (try (refine gate_guard (by rfl) ?_; dsimp only)); refine box_event ?hg (N := 7) ?hd (cs := #[.string (⟨#[]⟩ : ByteArray), .int .i64 0, .slice none 0 0]) (t := 31) ?hr ?_; (case hd => rfl); (case hg => rfl); (case hr => first | (go_simp; done) | (go_simp; rfl)); intro gb338 hg w27 hbox hb; have n0_ := Aside0.mk (Kd.R_below (rk HO336) hb); have n1_ := kl BK329 hb; have n2_ := ls1 HB GE329 hb; have n3_ := Aside0.mk (hbox); have n4_ := Aside0.mk ((by rw [hg]; exact (below_size (lb1 HB GE329)) : w.heap.size ≤ gb338)); have n5_ := Aside0.mk ((by rw [hg]; exact (below_size (lb1 HB GE329)) : w.heap.size ≤ gb338)); have n6_ := kn BK329 hg; have n7_ := km BK329 hg; clear HO336; clear BK329; clear HB; have HO336 := n0_; have BK329 := n1_; have HB := n2_; have BK338 := n3_; have GW338 := n4_; have GE338 := n5_; have NB329_338 := n6_; have NB338_329 := n7_; clear n0_ n1_ n2_ n3_ n4_ n5_ n6_ n7_; clear hb hbox hg; have hnb28 := NB338_329.out; have hnc28 := NB329_338.out; have hcz29_0 := bc BK338 0; have hcz29_1 := bc BK338 1; have hcz29_2 := bc BK338 2; have hfz29_0 := blk_frozen BK338.out 0; have hfz29_1 := blk_frozen BK338.out 1; have hfz29_2 := blk_frozen BK338.out 2; obtain ⟨Ao30, co30, eo30⟩ := Kd.R_slice HO336.out; subst eo30; have hcz31_0 := bc BK329 0; have hcz31_1 := bc BK329 1; have hcz31_2 := bc BK329 2; have hfz31_0 := blk_frozen BK329.out 0; have hfz31_1 := blk_frozen BK329.out 1; have hfz31_2 := blk_frozen BK329.out 2) | ((with_reducible refine gate_callee (f := 25) rfl ?_); refine goesL_ (some 40) rfl rfl Tryd.func25 (by kernel_rfl) rfl #[.agg #[.string a0_0, .int .i64 a0_1, .slice A0_2 l0_2.length c0_2], .int .i64 a1] rfl (by (try simp only [List.map_toArray, List.map_cons, List.map_nil]); first | done | rfl | (simp only [List.length_drop, List.length_take]; rfl)) ?_; (with_reducible refine (crossbarref28_Find.calls k a0_0 a0_1 _ _ l0_2 a1 t339 _ ?side1 ?side2 A10.out).mono ?_); (case side1 => exact Kd.C_below HR0_2.out (lb2 HB GE329 GE338)); (case side2 => exact HC0_2.out); rintro e w32 ⟨rfl, hb⟩; refine ⟨_, rfl, ?_⟩; have n0_ := Aside0.mk (Kd.R_below (by (with_reducible repeat (first | apply Kd.R_alloc | apply Kd.R_drewN | apply Kd.R_drew)); exact (Kd.R_mono (Kd.R_far (p := ⟨gb338, 2, none⟩) (Kd.R_far (p := ⟨gb338, 1, none⟩) (Kd.R_far (p := ⟨gb338, 0, none⟩) (Kd.R_types HO336.out BK338.out (by decide)) (fun _ hk => hk.2) (.string t332)) (fun _ hk => hk.2) (.int .i64 t333)) (fun _ hk => hk.2) (.slice Ao30 t334.length co30)) (fun _ h_ => h_.1))) hb); have n1_ := kl1 BK329 NB329_338 hb; have n2_ := Aside0.mk (blk_below (g := gb338) (o := .cells #[.string t332, .int .i64 t333, .slice Ao30 t334.length co30] 31 (0, 0)) (by (with_reducible repeat (first | refine blk_drewN ?_ _ | refine blk_drew ?_ | refine blk_alloc ?_ _)); refine blk_put (cs := #[.string t332, .int .i64 t333, .slice none 0 0]) ?_ 2 _ rfl; (with_reducible repeat (first | refine blk_drewN ?_ _ | refine blk_drew ?_ | refine blk_alloc ?_ _)); refine blk_put (cs := #[.string t332, .int .i64 0, .slice none 0 0]) ?_ 1 _ rfl; (with_reducible repeat (first | refine blk_drewN ?_ _ | refine blk_drew ?_ | refine blk_alloc ?_ _)); refine blk_put (cs := #[.string (⟨#[]⟩ : ByteArray), .int .i64 0, .slice none 0 0]) ?_ 0 _ rfl; (with_reducible repeat (first | refine blk_drewN ?_ _ | refine blk_drew ?_ | refine blk_alloc ?_ _)); exact BK338.out) hb); have n3_ := ls2 HB GE329 GE338 hb; clear HO336; clear BK329; clear BK338; clear HB; have HO336 := n0_; have BK329 := n1_; have BK338 := n2_; have HB := n3_; clear n0_ n1_ n2_ n3_; (try clear hb); (try clear hb2); (try clear hk); (try clear hi); have hcz33_0 := bc BK338 0; have hcz33_1 := bc BK338 1; have hcz33_2 := bc BK338 2; have hfz33_0 := blk_frozen BK338.out 0; have hfz33_1 := blk_frozen BK338.out 1; have hfz33_2 := blk_frozen BK338.out 2) | ((with_reducible refine gate_callee (f := 20) rfl ?_); refine goesL_ (some 45) rfl rfl Tryd.func20 (by kernel_rfl) rfl #[.agg #[.string t332, .int .i64 t333, .slice Ao30 t334.length co30], .int .i64 a1, .int .i64 a2] rfl (by (try simp only [List.map_toArray, List.map_cons, List.map_nil]); first | done | rfl | (simp only [List.length_drop, List.length_take]; rfl)) ?_; (with_reducible refine (prepaid_Settle.calls t332 t333 _ _ t334 a1 a2 t340 t341 t342 t345 _ ?side1 ?side2 A11.out).mono ?_); (case side1 => repeat (first | exact (Kd.R_reads' HO336.out).2.2 | (with_reducible refine Kd.C_alloc ?_ _) | (with_reducible refine Kd.C_drewN ?_ _) | (with_reducible refine Kd.C_drew ?_))); (case side2 => exact (Kd.R_reads' HO336.out).2.1); rintro e w34 ⟨v343, rfl, ho0, hb⟩; refine ⟨_, rfl, ?_⟩; have n0_ := Aside0.mk (Kd.R_elder' (rk HO336) (Kd.R_base ho0) hb); have n1_ := Aside0.mk (Kd.R_lower (Kd.R_new' ho0 (Kd.R_lt (rk HO336))) (below_size (lb2 HB GE329 GE338))); have n2_ := kl BK329 hb; have n3_ := kl BK338 hb; have n4_ := ls2 HB GE329 GE338 hb; clear HO336; clear BK329; clear BK338; clear HB; have HO336 := n0_; have HO344 := n1_; have BK329 := n2_; have BK338 := n3_; have HB := n4_; clear n0_ n1_ n2_ n3_ n4_; (try clear hb); (try clear hb2); (try clear hk); (try clear hi); (try clear ho0)) | ((with_reducible refine gate_dst (N := 10) rfl ?_); (try (refine gate_guard (by rfl) ?_; dsimp only)); refine box_event ?hg (N := 10) ?hd (cs := #[.string (⟨#[]⟩ : ByteArray), .int .i64 0, .slice none 0 0]) (t := 31) ?hr ?_; (case hd => rfl); (case hg => rfl); (case hr => first | (go_simp; done) | (go_simp; rfl)); intro gb346 hg w35 hbox hb; have n0_ := Aside0.mk (Kd.R_below (rk HO336) hb); have n1_ := Aside0.mk (Kd.R_below (rk HO344) hb); have n2_ := kl BK329 hb; have n3_ := kl BK338 hb; have n4_ := ls2 HB GE329 GE338 hb; have n5_ := Aside0.mk (hbox); have n6_ := Aside0.mk ((by rw [hg]; exact (below_size (lb2 HB GE329 GE338)) : w.heap.size ≤ gb346)); have n7_ := Aside0.mk ((by rw [hg]; exact (below_size (lb2 HB GE329 GE338)) : w.heap.size ≤ gb346)); have n8_ := kn BK329 hg; have n9_ := km BK329 hg; have n10_ := kn BK338 hg; have n11_ := km BK338 hg; clear HO336; clear HO344; clear BK329; clear BK338; clear HB; have HO336 := n0_; have HO344 := n1_; have BK329 := n2_; have BK338 := n3_; have HB := n4_; have BK346 := n5_; have GW346 := n6_; have GE346 := n7_; have NB329_346 := n8_; have NB346_329 := n9_; have NB338_346 := n10_; have NB346_338 := n11_; clear n0_ n1_ n2_ n3_ n4_ n5_ n6_ n7_ n8_ n9_ n10_ n11_; clear hb hbox hg; have hnb36 := NB346_329.out; have hnc36 := NB329_346.out; have hnb37 := NB346_338.out; have hnc37 := NB338_346.out; have hcz38_0 := bc BK346 0; have hcz38_1 := bc BK346 1; have hcz38_2 := bc BK346 2; have hfz38_0 := blk_frozen BK346.out 0; have hfz38_1 := blk_frozen BK346.out 1; have hfz38_2 := blk_frozen BK346.out 2; obtain ⟨Ao39, co39, eo39⟩ := Kd.R_slice HO344.out; subst eo39; have hcz40_0 := bc BK338 0; have hcz40_1 := bc BK338 1; have hcz40_2 := bc BK338 2; have hfz40_0 := blk_frozen BK338.out 0; have hfz40_1 := blk_frozen BK338.out 1; have hfz40_2 := blk_frozen BK338.out 2; have hcz41_0 := bc BK329 0; have hcz41_1 := bc BK329 1; have hcz41_2 := bc BK329 2; have hfz41_0 := blk_frozen BK329.out 0; have hfz41_1 := blk_frozen BK329.out 1; have hfz41_2 := blk_frozen BK329.out 2))
           have n0_ : Aside0 (Kd.R k54 54 (((w35.setCell ⟨gb346, 0, none⟩ (.string t340)).setCell ⟨gb346, 1, none⟩ (.int .i64 t341)).setCell ⟨gb346, 2, none⟩ (.slice Ao39 t342.length co39)) w.heap.size (fun k_ => some k_ ≠ (.slice Ao39 t342.length co39 : Value).ownBlock) (.slice Ao30 t334.length co30) t334) := ⟨by (with_reducible repeat (first | apply Kd.R_alloc | apply Kd.R_drewN | apply Kd.R_drew)); exact Kd.R_mono (Kd.R_far (p := ⟨gb346, 2, none⟩) (Kd.R_far (p := ⟨gb346, 1, none⟩) (Kd.R_far (p := ⟨gb346, 0, none⟩) (Kd.R_types HO336.out BK346.out (by decide)) (fun _ hk => hk.2) (.string t340)) (fun _ hk => hk.2) (.int .i64 t341)) (fun _ hk => hk.2) (.slice Ao39 t342.length co39)) (fun _ hk => hk.1.2)⟩
           have n1_ : Aside0 (Kd.R k54 54 (((w35.setCell ⟨gb346, 0, none⟩ (.string t340)).setCell ⟨gb346, 1, none⟩ (.int .i64 t341)).setCell ⟨gb346, 2, none⟩ (.slice Ao39 t342.length co39)) w.heap.size (fun k_ => some k_ ≠ (.slice Ao30 t334.length co30 : Value).ownBlock) (.slice Ao39 t342.length co39) t342) := ⟨by (with_reducible repeat (first | apply Kd.R_alloc | apply Kd.R_drewN | apply Kd.R_drew)); exact Kd.R_mono (Kd.R_far (p := ⟨gb346, 2, none⟩) (Kd.R_far (p := ⟨gb346, 1, none⟩) (Kd.R_far (p := ⟨gb346, 0, none⟩) (Kd.R_types HO344.out BK346.out (by decide)) (fun _ hk => hk.2) (.string t340)) (fun _ hk => hk.2) (.int .i64 t341)) (fun _ hk => hk.2) (.slice Ao39 t342.length co39)) (fun _ hk => hk.1.2)⟩
           have n2_ : Aside0 ((((w35.setCell ⟨gb346, 0, none⟩ (.string t340)).setCell ⟨gb346, 1, none⟩ (.int .i64 t341)).setCell ⟨gb346, 2, none⟩ (.slice Ao39 t342.length co39)).heap[gb329]? = some (.cells #[.string a0_0, .int .i64 a0_1, .slice A0_2 l0_2.length c0_2] 31 (0, 0))) := ⟨kf1 BK329 NB329_346⟩
           have n3_ : Aside0 ((((w35.setCell ⟨gb346, 0, none⟩ (.string t340)).setCell ⟨gb346, 1, none⟩ (.int .i64 t341)).setCell ⟨gb346, 2, none⟩ (.slice Ao39 t342.length co39)).heap[gb338]? = some (.cells #[.string t332, .int .i64 t333, .slice Ao30 t334.length co30] 31 (0, 0))) := ⟨kf1 BK338 NB338_346⟩
           have n4_ : Aside0 ((((w35.setCell ⟨gb346, 0, none⟩ (.string t340)).setCell ⟨gb346, 1, none⟩ (.int .i64 t341)).setCell ⟨gb346, 2, none⟩ (.slice Ao39 t342.length co39)).heap[gb346]? = some (.cells #[.string t340, .int .i64 t341, .slice Ao39 t342.length co39] 31 (0, 0))) := ⟨by (with_reducible repeat (first | refine blk_drewN ?_ _ | refine blk_drew ?_ | refine blk_alloc ?_ _)); refine blk_put (cs := #[.string t340, .int .i64 t341, .slice none 0 0]) ?_ 2 _ rfl; (with_reducible repeat (first | refine blk_drewN ?_ _ | refine blk_drew ?_ | refine blk_alloc ?_ _)); refine blk_put (cs := #[.string t340, .int .i64 0, .slice none 0 0]) ?_ 1 _ rfl; (with_reducible repeat (first | refine blk_drewN ?_ _ | refine blk_drew ?_ | refine blk_alloc ?_ _)); refine blk_put (cs := #[.string (⟨#[]⟩ : ByteArray), .int .i64 0, .slice none 0 0]) ?_ 0 _ rfl; (with_reducible repeat (first | refine blk_drewN ?_ _ | refine blk_drew ?_ | refine blk_alloc ?_ _)); exact BK346.out⟩
           have n5_ : Aside0 (Below w.heap.size w (((w35.setCell ⟨gb346, 0, none⟩ (.string t340)).setCell ⟨gb346, 1, none⟩ (.int .i64 t341)).setCell ⟨gb346, 2, none⟩ (.slice Ao39 t342.length co39))) := ⟨lb3 HB GE329 GE338 GE346⟩
           (try clear HO336)
           (try clear HO344)
           (try clear BK329)
           (try clear BK338)
           (try clear BK346)
           (try clear HB)
           generalize (((w35.setCell ⟨gb346, 0, none⟩ (.string t340)).setCell ⟨gb346, 1, none⟩ (.int .i64 t341)).setCell ⟨gb346, 2, none⟩ (.slice Ao39 t342.length co39)) = w42 at n0_ n1_ n2_ n3_ n4_ n5_ ⊢
           have HO336 := n0_
           have HO344 := n1_
           have BK329 := n2_
           have BK338 := n3_
           have BK346 := n4_
           have HB := n5_
           clear n0_ n1_ n2_ n3_ n4_ n5_
           have n0_ := Aside0.mk (Kd.R_drew HO336.out)
           have n1_ := Aside0.mk (Kd.R_drew HO344.out)
           have n2_ := Aside0.mk (blk_drew BK329.out)
           have n3_ := Aside0.mk (blk_drew BK338.out)
           have n4_ := Aside0.mk (blk_drew BK346.out)
           have n5_ := Aside0.mk (below_drew1 HB.out)
           clear HO336
           clear HO344
           clear BK329
           clear BK338
           clear BK346
           clear HB
           have HO336 := n0_
           have HO344 := n1_
           have BK329 := n2_
           have BK338 := n3_
           have BK346 := n4_
           have HB := n5_
           clear n0_ n1_ n2_ n3_ n4_ n5_
           have p347 : 0 ≤ (t339 : Int) := of_decide_eq_true (by first | (with_reducible assumption) | assumption)
           have q347 : t339 < (l0_2.length : Int) := of_decide_eq_true (by first | (with_reducible assumption) | assumption)
           obtain ⟨ad347, e347, hx347_0, hx347_1, hx347_2⟩ := at_T54 HR0_2.out t339 p347 q347
           have hw347_2 := hx347_2
           have hw347_1 := hx347_1
           have hw347_0 := hx347_0
           cases e347
           replace hx347_0 := (HB.out.cell (World.block_lt_of_cell? w _ hx347_0)).trans hx347_0
           replace hx347_1 := (HB.out.cell (World.block_lt_of_cell? w _ hx347_1)).trans hx347_1
           replace hx347_2 := (HB.out.cell (World.block_lt_of_cell? w _ hx347_2)).trans hx347_2
           replace p347 := eq_true p347
           replace q347 := eq_true q347
           refine start_ (n := 15) (S := fun w' => w'.cell? ⟨gb329, 0, none⟩ = some (.string a0_0) ∧ w'.cell? ⟨gb329, 1, none⟩ = some (.int .i64 a0_1) ∧ w'.cell? ⟨gb329, 2, none⟩ = some (.slice (some ad347) l0_2.length c0_2) ∧ w'.cell? (ad347.add ((t339).toNat * 3)) = some (.int .i64 ((rd_T54 l0_2 t339).f0)) ∧ w'.cell? ⟨(ad347.add ((t339).toNat * 3)).block, (ad347.add ((t339).toNat * 3)).off + 1, none⟩ = some (.int .i64 ((rd_T54 l0_2 t339).f1)) ∧ w'.cell? ⟨(ad347.add ((t339).toNat * 3)).block, (ad347.add ((t339).toNat * 3)).off + 2, none⟩ = some (.int .i64 ((rd_T54 l0_2 t339).f2))) (ds := []) #[false, false, false, false, false, false, false, false, false, false, false, false, false, false, false] (by kernel_rfl) rfl rfl ⟨(blk_cell BK329.out 0).trans rfl, (blk_cell BK329.out 1).trans rfl, (blk_cell BK329.out 2).trans rfl, ((HB.out.cell (World.block_lt_of_cell? w _ hw347_0)).trans hw347_0), ((HB.out.cell (World.block_lt_of_cell? w _ hw347_1)).trans hw347_1), ((HB.out.cell (World.block_lt_of_cell? w _ hw347_2)).trans hw347_2)⟩ (fun hHeld => ?_); refine with_tabW crossbarlaw28_PrepaidSettleBounded.tab12 crossbarlaw28_PrepaidSettleBounded.bits12 (fun HT_ HW_ => ?_)
           generalize w42.drew = w43 at HO336 HO344 BK329 BK338 BK346 HB hx347_0 hx347_1 hx347_2 hHeld ⊢
           refine p_ 1 66 HT_ ?_
           refine p_ 2 67 HT_ ?_
           refine p_ 4 69 HT_ ?_
           refine t_ 0 65 HT_ HW_ rfl rfl hHeld (by rintro w' ⟨s0, s1, s2, s3, s4, s5⟩; go_simp; with_reducible rfl) ?_
           refine t_ 3 68 HT_ HW_ rfl rfl hHeld (by rintro w' ⟨s0, s1, s2, s3, s4, s5⟩; go_simp; with_reducible rfl) ?_
           refine p_ 5 70 HT_ ?_
           refine p_ 6 71 HT_ ?_
           refine t_ 7 72 HT_ HW_ rfl rfl hHeld (by rintro w' ⟨s0, s1, s2, s3, s4, s5⟩; go_simp; with_reducible rfl) ?_
           refine join_ (σ := Value × Nat) 2 #[true, true, true, true, true, true, true, true, true, true, true, true, true, false, false] (fun s_ => [(73, .tuple #[.agg #[.string t348, .int .i64 t349, s_.1], .int .i64 t353]), (12, .pointer (some ⟨s_.2, 0, none⟩)), (64, .tuple #[.agg #[.string t348, .int .i64 t349, s_.1], .int .i64 t353]), (74, .agg #[.string t348, .int .i64 t349, s_.1]), (75, .int .i64 t353)]) (fun s_ w' => (w'.cell? ⟨gb329, 0, none⟩ = some (.string a0_0) ∧ w'.cell? ⟨gb329, 1, none⟩ = some (.int .i64 a0_1) ∧ w'.cell? ⟨gb329, 2, none⟩ = some (.slice (some ad347) l0_2.length c0_2) ∧ w'.cell? (ad347.add ((t339).toNat * 3)) = some (.int .i64 ((rd_T54 l0_2 t339).f0)) ∧ w'.cell? ⟨(ad347.add ((t339).toNat * 3)).block, (ad347.add ((t339).toNat * 3)).off + 1, none⟩ = some (.int .i64 ((rd_T54 l0_2 t339).f1)) ∧ w'.cell? ⟨(ad347.add ((t339).toNat * 3)).block, (ad347.add ((t339).toNat * 3)).off + 2, none⟩ = some (.int .i64 ((rd_T54 l0_2 t339).f2))) ∧ (Kd.R k54 54 w' w.heap.size (fun k_ => some k_ ≠ (.slice Ao39 t342.length co39 : Value).ownBlock ∧ some k_ ≠ (s_.1 : Value).ownBlock) (.slice Ao30 t334.length co30) t334) ∧ (Kd.R k54 54 w' w.heap.size (fun k_ => some k_ ≠ (.slice Ao30 t334.length co30 : Value).ownBlock ∧ some k_ ≠ (s_.1 : Value).ownBlock) (.slice Ao39 t342.length co39) t342) ∧ (Kd.R k54 54 w' w.heap.size (fun k_ => some k_ ≠ (.slice Ao30 t334.length co30 : Value).ownBlock ∧ some k_ ≠ (.slice Ao39 t342.length co39 : Value).ownBlock) s_.1 t350) ∧ (w'.heap[gb329]? = some (.cells #[.string a0_0, .int .i64 a0_1, .slice (some ad347) l0_2.length c0_2] 31 (0, 0))) ∧ (w'.heap[gb338]? = some (.cells #[.string t332, .int .i64 t333, .slice Ao30 t334.length co30] 31 (0, 0))) ∧ (w'.heap[gb346]? = some (.cells #[.string t340, .int .i64 t341, .slice Ao39 t342.length co39] 31 (0, 0))) ∧ (w'.heap[s_.2]? = some (.cells #[.string (⟨#[]⟩ : ByteArray), .int .i64 0, .slice none 0 0] 31 (0, 0))) ∧ (w.heap.size ≤ s_.2) ∧ (w.heap.size ≤ s_.2) ∧ (gb329 ≠ s_.2) ∧ (s_.2 ≠ gb329) ∧ (gb338 ≠ s_.2) ∧ (s_.2 ≠ gb338) ∧ (gb346 ≠ s_.2) ∧ (s_.2 ≠ gb346) ∧ (Below w.heap.size w w')) ?_ ?_
           rotate_left
           ·intro hCont
            refine two_ (i := 8) (j := 12) (Ni := some 73) (Nj := some 12) #[true, true, true, true, true, true, true, true, true, false, false, false, false, false, false] #[true, true, true, true, true, true, true, true, false, false, false, false, true, false, false] rfl rfl rfl rfl (two_of HT_.out (by kernel_rfl)) (by decide) (by decide) (fun K hK => ?_) (fun K hK => ?_)
            ·skip
             refine goes_ Tryd.func20 (by kernel_rfl) rfl #[.agg #[.string a0_0, .int .i64 a0_1, .slice (some ad347) l0_2.length c0_2], .int .i64 a1, .int .i64 ((rd_T54 l0_2 t339).f1)] (by rfl) rfl rfl (by (try simp only [List.map_toArray, List.map_cons, List.map_nil]); first | done | rfl | (simp only [List.length_drop, List.length_take]; rfl)) ?_
             with_reducible refine (prepaid_Settle.calls a0_0 a0_1 _ _ l0_2 a1 ((rd_T54 l0_2 t339).f1) t348 t349 t350 t353 _ ?side1 ?side2 A17.out).mono ?_
             (case side1 => repeat (first | exact (Kd.C_below HR0_2.out HB.out) | (with_reducible refine Kd.C_alloc ?_ _) | (with_reducible refine Kd.C_drewN ?_ _) | (with_reducible refine Kd.C_drew ?_)))
             (case side2 => exact HC0_2.out)
             rintro e w44 ⟨v351, rfl, ho0, hb⟩
             refine ⟨_, rfl, ?_⟩
             have n0_ := Aside0.mk (Kd.R_elder' (rk HO336) (Kd.R_base ho0) hb)
             have n1_ := Aside0.mk (Kd.R_elder' (rk HO344) (Kd.R_base ho0) hb)
             have n2_ := Aside0.mk (Kd.R_lower (Kd.R_new' (Kd.R_new' ho0 (Kd.R_lt (rk HO336))) (Kd.R_lt (rk HO344))) (below_size (lb3 HB GE329 GE338 GE346)))
             have n3_ := kl BK329 hb
             have n4_ := kl BK338 hb
             have n5_ := kl BK346 hb
             have n6_ := ls3 HB GE329 GE338 GE346 hb
             clear HO336
             clear HO344
             clear BK329
             clear BK338
             clear BK346
             clear HB
             have HO336 := n0_
             have HO344 := n1_
             have HO352 := n2_
             have BK329 := n3_
             have BK338 := n4_
             have BK346 := n5_
             have HB := n6_
             clear n0_ n1_ n2_ n3_ n4_ n5_ n6_
             (try clear hb)
             (try clear hb2)
             (try clear hk)
             (try clear hi)
             (try clear ho0)
             refine hK.out _ _ ⟨(blk_cell BK329.out 0).trans rfl, (blk_cell BK329.out 1).trans rfl, (blk_cell BK329.out 2).trans rfl, ((HB.out.cell (World.block_lt_of_cell? w _ hw347_0)).trans hw347_0), ((HB.out.cell (World.block_lt_of_cell? w _ hw347_1)).trans hw347_1), ((HB.out.cell (World.block_lt_of_cell? w _ hw347_2)).trans hw347_2)⟩ (fun hHeld => ?_)
             clear hK K
             refine n_ 73 ?_
             refine p_ 9 64 HT_ ?_
             refine p_ 10 74 HT_ ?_
             refine p_ 11 75 HT_ ?_
             refine o_ 12 12 HT_ (fun K hK => ?_)
             refine box_step ?hg (N := 12) ?hd (cs := #[.string (⟨#[]⟩ : ByteArray), .int .i64 0, .slice none 0 0]) (t := 31) ?hr ?_; (case hd => rfl); (case hg => rfl); (case hr => first | (go_simp; done) | (go_simp; rfl))
             intro gb354 hg w45 hbox hb
             have n0_ := Aside0.mk (Kd.R_below (rk HO336) hb)
             have n1_ := Aside0.mk (Kd.R_below (rk HO344) hb)
             have n2_ := Aside0.mk (Kd.R_below (rk HO352) hb)
             have n3_ := kl BK329 hb
             have n4_ := kl BK338 hb
             have n5_ := kl BK346 hb
             have n6_ := ls3 HB GE329 GE338 GE346 hb
             have n7_ := Aside0.mk (hbox)
             have n8_ := Aside0.mk ((by rw [hg]; exact (below_size (lb3 HB GE329 GE338 GE346)) : w.heap.size ≤ gb354))
             have n9_ := Aside0.mk ((by rw [hg]; exact (below_size (lb3 HB GE329 GE338 GE346)) : w.heap.size ≤ gb354))
             have n10_ := kn BK329 hg
             have n11_ := km BK329 hg
             have n12_ := kn BK338 hg
             have n13_ := km BK338 hg
             have n14_ := kn BK346 hg
             have n15_ := km BK346 hg
             clear HO336
             clear HO344
             clear HO352
             clear BK329
             clear BK338
             clear BK346
             clear HB
             have HO336 := n0_
             have HO344 := n1_
             have HO352 := n2_
             have BK329 := n3_
             have BK338 := n4_
             have BK346 := n5_
             have HB := n6_
             have BK354 := n7_
             have GW354 := n8_
             have GE354 := n9_
             have NB329_354 := n10_
             have NB354_329 := n11_
             have NB338_354 := n12_
             have NB354_338 := n13_
             have NB346_354 := n14_
             have NB354_346 := n15_
             clear n0_ n1_ n2_ n3_ n4_ n5_ n6_ n7_ n8_ n9_ n10_ n11_ n12_ n13_ n14_ n15_
             clear hb hbox hg
             refine hK.out _ _ ⟨(blk_cell BK329.out 0).trans rfl, (blk_cell BK329.out 1).trans rfl, (blk_cell BK329.out 2).trans rfl, ((HB.out.cell (World.block_lt_of_cell? w _ hw347_0)).trans hw347_0), ((HB.out.cell (World.block_lt_of_cell? w _ hw347_1)).trans hw347_1), ((HB.out.cell (World.block_lt_of_cell? w _ hw347_2)).trans hw347_2)⟩ (fun hHeld => ?_)
             clear hK K
             refine n_ 12 ?_
             exact norm_ (by simp only [putAll, Act.put, List.setIfInBounds_toArray, List.set_cons_zero, List.set_cons_succ]) (hCont (v351, gb354) _ ⟨hHeld, (rk HO336), (rk HO344), (by (with_reducible repeat (first | apply Kd.R_alloc | apply Kd.R_drewN | apply Kd.R_drew)); exact Kd.R_mono HO352.out (fun _ hk => ⟨hk.1.2, hk.2⟩)), (kb BK329), (kb BK338), (kb BK346), (kb BK354), GW354.out, GE354.out, NB329_354.out, NB354_329.out, NB338_354.out, NB354_338.out, NB346_354.out, NB354_346.out, (lb4 HB GE329 GE338 GE346 GE354)⟩)
            ·skip
             refine box_step ?hg (N := 12) ?hd (cs := #[.string (⟨#[]⟩ : ByteArray), .int .i64 0, .slice none 0 0]) (t := 31) ?hr ?_; (case hd => rfl); (case hg => rfl); (case hr => first | (go_simp; done) | (go_simp; rfl))
             intro gb354 hg w44 hbox hb
             have n0_ := Aside0.mk (Kd.R_below (rk HO336) hb)
             have n1_ := Aside0.mk (Kd.R_below (rk HO344) hb)
             have n2_ := kl BK329 hb
             have n3_ := kl BK338 hb
             have n4_ := kl BK346 hb
             have n5_ := ls3 HB GE329 GE338 GE346 hb
             have n6_ := Aside0.mk (hbox)
             have n7_ := Aside0.mk ((by rw [hg]; exact (below_size (lb3 HB GE329 GE338 GE346)) : w.heap.size ≤ gb354))
             have n8_ := Aside0.mk ((by rw [hg]; exact (below_size (lb3 HB GE329 GE338 GE346)) : w.heap.size ≤ gb354))
             have n9_ := kn BK329 hg
             have n10_ := km BK329 hg
             have n11_ := kn BK338 hg
             have n12_ := km BK338 hg
             have n13_ := kn BK346 hg
             have n14_ := km BK346 hg
             clear HO336
             clear HO344
             clear BK329
             clear BK338
             clear BK346
             clear HB
             have HO336 := n0_
             have HO344 := n1_
             have BK329 := n2_
             have BK338 := n3_
             have BK346 := n4_
             have HB := n5_
             have BK354 := n6_
             have GW354 := n7_
             have GE354 := n8_
             have NB329_354 := n9_
             have NB354_329 := n10_
             have NB338_354 := n11_
             have NB354_338 := n12_
             have NB346_354 := n13_
             have NB354_346 := n14_
             clear n0_ n1_ n2_ n3_ n4_ n5_ n6_ n7_ n8_ n9_ n10_ n11_ n12_ n13_ n14_
             clear hb hbox hg
             refine hK.out _ _ ⟨(blk_cell BK329.out 0).trans rfl, (blk_cell BK329.out 1).trans rfl, (blk_cell BK329.out 2).trans rfl, ((HB.out.cell (World.block_lt_of_cell? w _ hw347_0)).trans hw347_0), ((HB.out.cell (World.block_lt_of_cell? w _ hw347_1)).trans hw347_1), ((HB.out.cell (World.block_lt_of_cell? w _ hw347_2)).trans hw347_2)⟩ (fun hHeld => ?_)
             clear hK K
             refine n_ 12 ?_
             refine o_ 8 73 HT_ (fun K hK => ?_)
             refine goes_ Tryd.func20 (by kernel_rfl) rfl #[.agg #[.string a0_0, .int .i64 a0_1, .slice (some ad347) l0_2.length c0_2], .int .i64 a1, .int .i64 ((rd_T54 l0_2 t339).f1)] (by rfl) rfl rfl (by (try simp only [List.map_toArray, List.map_cons, List.map_nil]); first | done | rfl | (simp only [List.length_drop, List.length_take]; rfl)) ?_
             with_reducible refine (prepaid_Settle.calls a0_0 a0_1 _ _ l0_2 a1 ((rd_T54 l0_2 t339).f1) t348 t349 t350 t353 _ ?side1 ?side2 A17.out).mono ?_
             (case side1 => repeat (first | exact (Kd.C_below HR0_2.out HB.out) | (with_reducible refine Kd.C_alloc ?_ _) | (with_reducible refine Kd.C_drewN ?_ _) | (with_reducible refine Kd.C_drew ?_)))
             (case side2 => exact HC0_2.out)
             rintro e w45 ⟨v351, rfl, ho0, hb⟩
             refine ⟨_, rfl, ?_⟩
             have n0_ := Aside0.mk (Kd.R_elder' (rk HO336) (Kd.R_base ho0) hb)
             have n1_ := Aside0.mk (Kd.R_elder' (rk HO344) (Kd.R_base ho0) hb)
             have n2_ := Aside0.mk (Kd.R_lower (Kd.R_new' (Kd.R_new' ho0 (Kd.R_lt (rk HO336))) (Kd.R_lt (rk HO344))) (below_size (lb4 HB GE329 GE338 GE346 GE354)))
             have n3_ := kl BK329 hb
             have n4_ := kl BK338 hb
             have n5_ := kl BK346 hb
             have n6_ := kl BK354 hb
             have n7_ := ls4 HB GE329 GE338 GE346 GE354 hb
             clear HO336
             clear HO344
             clear BK329
             clear BK338
             clear BK346
             clear BK354
             clear HB
             have HO336 := n0_
             have HO344 := n1_
             have HO352 := n2_
             have BK329 := n3_
             have BK338 := n4_
             have BK346 := n5_
             have BK354 := n6_
             have HB := n7_
             clear n0_ n1_ n2_ n3_ n4_ n5_ n6_ n7_
             (try clear hb)
             (try clear hb2)
             (try clear hk)
             (try clear hi)
             (try clear ho0)
             refine hK.out _ _ ⟨(blk_cell BK329.out 0).trans rfl, (blk_cell BK329.out 1).trans rfl, (blk_cell BK329.out 2).trans rfl, ((HB.out.cell (World.block_lt_of_cell? w _ hw347_0)).trans hw347_0), ((HB.out.cell (World.block_lt_of_cell? w _ hw347_1)).trans hw347_1), ((HB.out.cell (World.block_lt_of_cell? w _ hw347_2)).trans hw347_2)⟩ (fun hHeld => ?_)
             clear hK K
             refine n_ 73 ?_
             refine p_ 9 64 HT_ ?_
             refine p_ 10 74 HT_ ?_
             refine p_ 11 75 HT_ ?_
             exact norm_ (by simp only [putAll, Act.put, List.setIfInBounds_toArray, List.set_cons_zero, List.set_cons_succ]) (hCont (v351, gb354) _ ⟨hHeld, (rk HO336), (rk HO344), (by (with_reducible repeat (first | apply Kd.R_alloc | apply Kd.R_drewN | apply Kd.R_drew)); exact Kd.R_mono HO352.out (fun _ hk => ⟨hk.1.2, hk.2⟩)), (kb BK329), (kb BK338), (kb BK346), (kb BK354), GW354.out, GE354.out, NB329_354.out, NB354_329.out, NB338_354.out, NB354_338.out, NB346_354.out, NB354_346.out, (lb4 HB GE329 GE338 GE346 GE354)⟩)
           rintro ⟨v351, gb354⟩ w46 ⟨hS_, h0_, h1_, h2_, h3_, h4_, h5_, h6_, h7_, h8_, h9_, h10_, h11_, h12_, h13_, h14_, h15_⟩
           have n0_ : Aside0 (Kd.R k54 54 w46 w.heap.size (fun k_ => some k_ ≠ (.slice Ao39 t342.length co39 : Value).ownBlock ∧ some k_ ≠ (v351 : Value).ownBlock) (.slice Ao30 t334.length co30) t334) := ⟨h0_⟩
           have n1_ : Aside0 (Kd.R k54 54 w46 w.heap.size (fun k_ => some k_ ≠ (.slice Ao30 t334.length co30 : Value).ownBlock ∧ some k_ ≠ (v351 : Value).ownBlock) (.slice Ao39 t342.length co39) t342) := ⟨h1_⟩
           have n2_ : Aside0 (Kd.R k54 54 w46 w.heap.size (fun k_ => some k_ ≠ (.slice Ao30 t334.length co30 : Value).ownBlock ∧ some k_ ≠ (.slice Ao39 t342.length co39 : Value).ownBlock) v351 t350) := ⟨h2_⟩
           have n3_ : Aside0 (w46.heap[gb329]? = some (.cells #[.string a0_0, .int .i64 a0_1, .slice (some ad347) l0_2.length c0_2] 31 (0, 0))) := ⟨h3_⟩
           have n4_ : Aside0 (w46.heap[gb338]? = some (.cells #[.string t332, .int .i64 t333, .slice Ao30 t334.length co30] 31 (0, 0))) := ⟨h4_⟩
           have n5_ : Aside0 (w46.heap[gb346]? = some (.cells #[.string t340, .int .i64 t341, .slice Ao39 t342.length co39] 31 (0, 0))) := ⟨h5_⟩
           have n6_ : Aside0 (w46.heap[gb354]? = some (.cells #[.string (⟨#[]⟩ : ByteArray), .int .i64 0, .slice none 0 0] 31 (0, 0))) := ⟨h6_⟩
           have n7_ : Aside0 (w.heap.size ≤ gb354) := ⟨h7_⟩
           have n8_ : Aside0 (w.heap.size ≤ gb354) := ⟨h8_⟩
           have n9_ : Aside0 (gb329 ≠ gb354) := ⟨h9_⟩
           have n10_ : Aside0 (gb354 ≠ gb329) := ⟨h10_⟩
           have n11_ : Aside0 (gb338 ≠ gb354) := ⟨h11_⟩
           have n12_ : Aside0 (gb354 ≠ gb338) := ⟨h12_⟩
           have n13_ : Aside0 (gb346 ≠ gb354) := ⟨h13_⟩
           have n14_ : Aside0 (gb354 ≠ gb346) := ⟨h14_⟩
           have n15_ : Aside0 (Below w.heap.size w w46) := ⟨h15_⟩
           clear HO336
           clear HO344
           clear BK329
           clear BK338
           clear BK346
           clear HB
           clear h0_ h1_ h2_ h3_ h4_ h5_ h6_ h7_ h8_ h9_ h10_ h11_ h12_ h13_ h14_ h15_
           have HO336 := n0_
           have HO344 := n1_
           have HO352 := n2_
           have BK329 := n3_
           have BK338 := n4_
           have BK346 := n5_
           have BK354 := n6_
           have GW354 := n7_
           have GE354 := n8_
           have NB329_354 := n9_
           have NB354_329 := n10_
           have NB338_354 := n11_
           have NB354_338 := n12_
           have NB346_354 := n13_
           have NB354_346 := n14_
           have HB := n15_
           clear n0_ n1_ n2_ n3_ n4_ n5_ n6_ n7_ n8_ n9_ n10_ n11_ n12_ n13_ n14_ n15_
           have hHeld : w46.cell? ⟨gb329, 0, none⟩ = some (.string a0_0) ∧ w46.cell? ⟨gb329, 1, none⟩ = some (.int .i64 a0_1) ∧ w46.cell? ⟨gb329, 2, none⟩ = some (.slice (some ad347) l0_2.length c0_2) ∧ w46.cell? (ad347.add ((t339).toNat * 3)) = some (.int .i64 ((rd_T54 l0_2 t339).f0)) ∧ w46.cell? ⟨(ad347.add ((t339).toNat * 3)).block, (ad347.add ((t339).toNat * 3)).off + 1, none⟩ = some (.int .i64 ((rd_T54 l0_2 t339).f1)) ∧ w46.cell? ⟨(ad347.add ((t339).toNat * 3)).block, (ad347.add ((t339).toNat * 3)).off + 2, none⟩ = some (.int .i64 ((rd_T54 l0_2 t339).f2)) := hS_
           obtain ⟨Ao49, co49, eo49⟩ := Kd.R_slice HO352.out
           (first | subst eo49 | (injection eo49 with f1_ f2_ f3_; have f4_ := f1_.symm; have f5_ := f3_.symm; clear f1_ f2_ f3_; subst f4_; subst f5_))
           refine norm_ (a' := ?_) ?_ ?_
           rotate_left
           ·simp only [putAll, Act.put, List.setIfInBounds_toArray, List.set_cons_zero, List.set_cons_succ]
            rfl
           refine one_ (i := 13) (N := none) #[true, true, true, true, true, true, true, true, true, true, true, true, true, true, false] rfl rfl (one_of HT_.out (by kernel_rfl)) (by decide) (fun K hK => ?_)
           have hs47 : w46.cell? ⟨gb354, 0, none⟩ = some (.string (⟨#[]⟩ : ByteArray)) := (blk_cell BK354.out 0).trans rfl
           have hfs47 := blk_frozen BK354.out 0
           have hns47_0 := NB329_354.out
           have hns47_1 := NB338_354.out
           have hns47_2 := NB346_354.out
           have hms47_0 := NB354_329.out
           have hms47_1 := NB354_338.out
           have hms47_2 := NB354_346.out
           have hs48 : w46.cell? ⟨gb354, 1, none⟩ = some (.int .i64 0) := (blk_cell BK354.out 1).trans rfl
           have hfs48 := blk_frozen BK354.out 1
           have hns48_0 := NB329_354.out
           have hns48_1 := NB338_354.out
           have hns48_2 := NB346_354.out
           have hms48_0 := NB354_329.out
           have hms48_1 := NB354_338.out
           have hms48_2 := NB354_346.out
           have hs50 : w46.cell? ⟨gb354, 2, none⟩ = some (.slice none 0 0) := (blk_cell BK354.out 2).trans rfl
           have hfs50 := blk_frozen BK354.out 2
           have hns50_0 := NB329_354.out
           have hns50_1 := NB338_354.out
           have hns50_2 := NB346_354.out
           have hms50_0 := NB354_329.out
           have hms50_1 := NB354_338.out
           have hms50_2 := NB354_346.out
           refine skip_ (w1 := ?_) (by rfl) rfl ?_ ?_
           rotate_left
           ·go_simp
            rfl
           refine hK.out _ _ ⟨((cell_far (p := ⟨gb354, _, none⟩) NB329_354.out _).trans (((cell_far (p := ⟨gb354, _, none⟩) NB329_354.out _).trans (((cell_far (p := ⟨gb354, _, none⟩) NB329_354.out _).trans (hHeld.1)))))), ((cell_far (p := ⟨gb354, _, none⟩) NB329_354.out _).trans (((cell_far (p := ⟨gb354, _, none⟩) NB329_354.out _).trans (((cell_far (p := ⟨gb354, _, none⟩) NB329_354.out _).trans (hHeld.2.1)))))), ((cell_far (p := ⟨gb354, _, none⟩) NB329_354.out _).trans (((cell_far (p := ⟨gb354, _, none⟩) NB329_354.out _).trans (((cell_far (p := ⟨gb354, _, none⟩) NB329_354.out _).trans (hHeld.2.2.1)))))), ((cell_far (p := ⟨gb354, _, none⟩) (by first | exact Nat.ne_of_lt (Nat.lt_of_lt_of_le (by have := World.block_lt_of_cell? _ _ hw347_0; first | rwa [add_block] at this | exact this) GW354.out) | (rw [add_block]; exact Nat.ne_of_lt (Nat.lt_of_lt_of_le (by have := World.block_lt_of_cell? _ _ hw347_0; first | rwa [add_block] at this | exact this) GW354.out)) | (show (Addr.add _ _).block ≠ _; rw [add_block]; exact Nat.ne_of_lt (Nat.lt_of_lt_of_le (by have := World.block_lt_of_cell? _ _ hw347_0; first | rwa [add_block] at this | exact this) GW354.out)) | (dsimp only; exact Nat.ne_of_lt (Nat.lt_of_lt_of_le (by have := World.block_lt_of_cell? _ _ hw347_0; first | rwa [add_block] at this | exact this) GW354.out))) _).trans (((cell_far (p := ⟨gb354, _, none⟩) (by first | exact Nat.ne_of_lt (Nat.lt_of_lt_of_le (by have := World.block_lt_of_cell? _ _ hw347_0; first | rwa [add_block] at this | exact this) GW354.out) | (rw [add_block]; exact Nat.ne_of_lt (Nat.lt_of_lt_of_le (by have := World.block_lt_of_cell? _ _ hw347_0; first | rwa [add_block] at this | exact this) GW354.out)) | (show (Addr.add _ _).block ≠ _; rw [add_block]; exact Nat.ne_of_lt (Nat.lt_of_lt_of_le (by have := World.block_lt_of_cell? _ _ hw347_0; first | rwa [add_block] at this | exact this) GW354.out)) | (dsimp only; exact Nat.ne_of_lt (Nat.lt_of_lt_of_le (by have := World.block_lt_of_cell? _ _ hw347_0; first | rwa [add_block] at this | exact this) GW354.out))) _).trans (((cell_far (p := ⟨gb354, _, none⟩) (by first | exact Nat.ne_of_lt (Nat.lt_of_lt_of_le (by have := World.block_lt_of_cell? _ _ hw347_0; first | rwa [add_block] at this | exact this) GW354.out) | (rw [add_block]; exact Nat.ne_of_lt (Nat.lt_of_lt_of_le (by have := World.block_lt_of_cell? _ _ hw347_0; first | rwa [add_block] at this | exact this) GW354.out)) | (show (Addr.add _ _).block ≠ _; rw [add_block]; exact Nat.ne_of_lt (Nat.lt_of_lt_of_le (by have := World.block_lt_of_cell? _ _ hw347_0; first | rwa [add_block] at this | exact this) GW354.out)) | (dsimp only; exact Nat.ne_of_lt (Nat.lt_of_lt_of_le (by have := World.block_lt_of_cell? _ _ hw347_0; first | rwa [add_block] at this | exact this) GW354.out))) _).trans (hHeld.2.2.2.1)))))), ((cell_far (p := ⟨gb354, _, none⟩) (by first | exact Nat.ne_of_lt (Nat.lt_of_lt_of_le (by have := World.block_lt_of_cell? _ _ hw347_1; first | rwa [add_block] at this | exact this) GW354.out) | (rw [add_block]; exact Nat.ne_of_lt (Nat.lt_of_lt_of_le (by have := World.block_lt_of_cell? _ _ hw347_1; first | rwa [add_block] at this | exact this) GW354.out)) | (show (Addr.add _ _).block ≠ _; rw [add_block]; exact Nat.ne_of_lt (Nat.lt_of_lt_of_le (by have := World.block_lt_of_cell? _ _ hw347_1; first | rwa [add_block] at this | exact this) GW354.out)) | (dsimp only; exact Nat.ne_of_lt (Nat.lt_of_lt_of_le (by have := World.block_lt_of_cell? _ _ hw347_1; first | rwa [add_block] at this | exact this) GW354.out))) _).trans (((cell_far (p := ⟨gb354, _, none⟩) (by first | exact Nat.ne_of_lt (Nat.lt_of_lt_of_le (by have := World.block_lt_of_cell? _ _ hw347_1; first | rwa [add_block] at this | exact this) GW354.out) | (rw [add_block]; exact Nat.ne_of_lt (Nat.lt_of_lt_of_le (by have := World.block_lt_of_cell? _ _ hw347_1; first | rwa [add_block] at this | exact this) GW354.out)) | (show (Addr.add _ _).block ≠ _; rw [add_block]; exact Nat.ne_of_lt (Nat.lt_of_lt_of_le (by have := World.block_lt_of_cell? _ _ hw347_1; first | rwa [add_block] at this | exact this) GW354.out)) | (dsimp only; exact Nat.ne_of_lt (Nat.lt_of_lt_of_le (by have := World.block_lt_of_cell? _ _ hw347_1; first | rwa [add_block] at this | exact this) GW354.out))) _).trans (((cell_far (p := ⟨gb354, _, none⟩) (by first | exact Nat.ne_of_lt (Nat.lt_of_lt_of_le (by have := World.block_lt_of_cell? _ _ hw347_1; first | rwa [add_block] at this | exact this) GW354.out) | (rw [add_block]; exact Nat.ne_of_lt (Nat.lt_of_lt_of_le (by have := World.block_lt_of_cell? _ _ hw347_1; first | rwa [add_block] at this | exact this) GW354.out)) | (show (Addr.add _ _).block ≠ _; rw [add_block]; exact Nat.ne_of_lt (Nat.lt_of_lt_of_le (by have := World.block_lt_of_cell? _ _ hw347_1; first | rwa [add_block] at this | exact this) GW354.out)) | (dsimp only; exact Nat.ne_of_lt (Nat.lt_of_lt_of_le (by have := World.block_lt_of_cell? _ _ hw347_1; first | rwa [add_block] at this | exact this) GW354.out))) _).trans (hHeld.2.2.2.2.1)))))), ((cell_far (p := ⟨gb354, _, none⟩) (by first | exact Nat.ne_of_lt (Nat.lt_of_lt_of_le (by have := World.block_lt_of_cell? _ _ hw347_2; first | rwa [add_block] at this | exact this) GW354.out) | (rw [add_block]; exact Nat.ne_of_lt (Nat.lt_of_lt_of_le (by have := World.block_lt_of_cell? _ _ hw347_2; first | rwa [add_block] at this | exact this) GW354.out)) | (show (Addr.add _ _).block ≠ _; rw [add_block]; exact Nat.ne_of_lt (Nat.lt_of_lt_of_le (by have := World.block_lt_of_cell? _ _ hw347_2; first | rwa [add_block] at this | exact this) GW354.out)) | (dsimp only; exact Nat.ne_of_lt (Nat.lt_of_lt_of_le (by have := World.block_lt_of_cell? _ _ hw347_2; first | rwa [add_block] at this | exact this) GW354.out))) _).trans (((cell_far (p := ⟨gb354, _, none⟩) (by first | exact Nat.ne_of_lt (Nat.lt_of_lt_of_le (by have := World.block_lt_of_cell? _ _ hw347_2; first | rwa [add_block] at this | exact this) GW354.out) | (rw [add_block]; exact Nat.ne_of_lt (Nat.lt_of_lt_of_le (by have := World.block_lt_of_cell? _ _ hw347_2; first | rwa [add_block] at this | exact this) GW354.out)) | (show (Addr.add _ _).block ≠ _; rw [add_block]; exact Nat.ne_of_lt (Nat.lt_of_lt_of_le (by have := World.block_lt_of_cell? _ _ hw347_2; first | rwa [add_block] at this | exact this) GW354.out)) | (dsimp only; exact Nat.ne_of_lt (Nat.lt_of_lt_of_le (by have := World.block_lt_of_cell? _ _ hw347_2; first | rwa [add_block] at this | exact this) GW354.out))) _).trans (((cell_far (p := ⟨gb354, _, none⟩) (by first | exact Nat.ne_of_lt (Nat.lt_of_lt_of_le (by have := World.block_lt_of_cell? _ _ hw347_2; first | rwa [add_block] at this | exact this) GW354.out) | (rw [add_block]; exact Nat.ne_of_lt (Nat.lt_of_lt_of_le (by have := World.block_lt_of_cell? _ _ hw347_2; first | rwa [add_block] at this | exact this) GW354.out)) | (show (Addr.add _ _).block ≠ _; rw [add_block]; exact Nat.ne_of_lt (Nat.lt_of_lt_of_le (by have := World.block_lt_of_cell? _ _ hw347_2; first | rwa [add_block] at this | exact this) GW354.out)) | (dsimp only; exact Nat.ne_of_lt (Nat.lt_of_lt_of_le (by have := World.block_lt_of_cell? _ _ hw347_2; first | rwa [add_block] at this | exact this) GW354.out))) _).trans (hHeld.2.2.2.2.2))))))⟩ (fun hHeld => ?_)
           clear hK K
           refine p_ 14 13 HT_ ?_
           refine done_ (done_of HT_.out (by kernel_rfl)) ?_
           try go_wp2
           have n0_ : Aside0 (Kd.R k54 54 (((w46.setCell ⟨gb354, 0, none⟩ (.string t348)).setCell ⟨gb354, 1, none⟩ (.int .i64 t349)).setCell ⟨gb354, 2, none⟩ (.slice Ao49 t350.length co49)) w.heap.size (fun k_ => some k_ ≠ (.slice Ao39 t342.length co39 : Value).ownBlock ∧ some k_ ≠ (.slice Ao49 t350.length co49 : Value).ownBlock) (.slice Ao30 t334.length co30) t334) := ⟨by (with_reducible repeat (first | apply Kd.R_alloc | apply Kd.R_drewN | apply Kd.R_drew)); exact Kd.R_mono (Kd.R_far (p := ⟨gb354, 2, none⟩) (Kd.R_far (p := ⟨gb354, 1, none⟩) (Kd.R_far (p := ⟨gb354, 0, none⟩) (Kd.R_types HO336.out BK354.out (by decide)) (fun _ hk => hk.2) (.string t348)) (fun _ hk => hk.2) (.int .i64 t349)) (fun _ hk => hk.2) (.slice Ao49 t350.length co49)) (fun _ hk => ⟨hk.1.1, hk.1.2⟩)⟩
           have n1_ : Aside0 (Kd.R k54 54 (((w46.setCell ⟨gb354, 0, none⟩ (.string t348)).setCell ⟨gb354, 1, none⟩ (.int .i64 t349)).setCell ⟨gb354, 2, none⟩ (.slice Ao49 t350.length co49)) w.heap.size (fun k_ => some k_ ≠ (.slice Ao30 t334.length co30 : Value).ownBlock ∧ some k_ ≠ (.slice Ao49 t350.length co49 : Value).ownBlock) (.slice Ao39 t342.length co39) t342) := ⟨by (with_reducible repeat (first | apply Kd.R_alloc | apply Kd.R_drewN | apply Kd.R_drew)); exact Kd.R_mono (Kd.R_far (p := ⟨gb354, 2, none⟩) (Kd.R_far (p := ⟨gb354, 1, none⟩) (Kd.R_far (p := ⟨gb354, 0, none⟩) (Kd.R_types HO344.out BK354.out (by decide)) (fun _ hk => hk.2) (.string t348)) (fun _ hk => hk.2) (.int .i64 t349)) (fun _ hk => hk.2) (.slice Ao49 t350.length co49)) (fun _ hk => ⟨hk.1.1, hk.1.2⟩)⟩
           have n2_ : Aside0 (Kd.R k54 54 (((w46.setCell ⟨gb354, 0, none⟩ (.string t348)).setCell ⟨gb354, 1, none⟩ (.int .i64 t349)).setCell ⟨gb354, 2, none⟩ (.slice Ao49 t350.length co49)) w.heap.size (fun k_ => some k_ ≠ (.slice Ao30 t334.length co30 : Value).ownBlock ∧ some k_ ≠ (.slice Ao39 t342.length co39 : Value).ownBlock) (.slice Ao49 t350.length co49) t350) := ⟨by (with_reducible repeat (first | apply Kd.R_alloc | apply Kd.R_drewN | apply Kd.R_drew)); exact Kd.R_mono (Kd.R_far (p := ⟨gb354, 2, none⟩) (Kd.R_far (p := ⟨gb354, 1, none⟩) (Kd.R_far (p := ⟨gb354, 0, none⟩) (Kd.R_types HO352.out BK354.out (by decide)) (fun _ hk => hk.2) (.string t348)) (fun _ hk => hk.2) (.int .i64 t349)) (fun _ hk => hk.2) (.slice Ao49 t350.length co49)) (fun _ hk => ⟨hk.1.1, hk.1.2⟩)⟩
           have n3_ : Aside0 ((((w46.setCell ⟨gb354, 0, none⟩ (.string t348)).setCell ⟨gb354, 1, none⟩ (.int .i64 t349)).setCell ⟨gb354, 2, none⟩ (.slice Ao49 t350.length co49)).heap[gb329]? = some (.cells #[.string a0_0, .int .i64 a0_1, .slice (some ad347) l0_2.length c0_2] 31 (0, 0))) := ⟨kf1 BK329 NB329_354⟩
           have n4_ : Aside0 ((((w46.setCell ⟨gb354, 0, none⟩ (.string t348)).setCell ⟨gb354, 1, none⟩ (.int .i64 t349)).setCell ⟨gb354, 2, none⟩ (.slice Ao49 t350.length co49)).heap[gb338]? = some (.cells #[.string t332, .int .i64 t333, .slice Ao30 t334.length co30] 31 (0, 0))) := ⟨kf1 BK338 NB338_354⟩
           have n5_ : Aside0 ((((w46.setCell ⟨gb354, 0, none⟩ (.string t348)).setCell ⟨gb354, 1, none⟩ (.int .i64 t349)).setCell ⟨gb354, 2, none⟩ (.slice Ao49 t350.length co49)).heap[gb346]? = some (.cells #[.string t340, .int .i64 t341, .slice Ao39 t342.length co39] 31 (0, 0))) := ⟨kf1 BK346 NB346_354⟩
           have n6_ : Aside0 ((((w46.setCell ⟨gb354, 0, none⟩ (.string t348)).setCell ⟨gb354, 1, none⟩ (.int .i64 t349)).setCell ⟨gb354, 2, none⟩ (.slice Ao49 t350.length co49)).heap[gb354]? = some (.cells #[.string t348, .int .i64 t349, .slice Ao49 t350.length co49] 31 (0, 0))) := ⟨by (with_reducible repeat (first | refine blk_drewN ?_ _ | refine blk_drew ?_ | refine blk_alloc ?_ _)); refine blk_put (cs := #[.string t348, .int .i64 t349, .slice none 0 0]) ?_ 2 _ rfl; (with_reducible repeat (first | refine blk_drewN ?_ _ | refine blk_drew ?_ | refine blk_alloc ?_ _)); refine blk_put (cs := #[.string t348, .int .i64 0, .slice none 0 0]) ?_ 1 _ rfl; (with_reducible repeat (first | refine blk_drewN ?_ _ | refine blk_drew ?_ | refine blk_alloc ?_ _)); refine blk_put (cs := #[.string (⟨#[]⟩ : ByteArray), .int .i64 0, .slice none 0 0]) ?_ 0 _ rfl; (with_reducible repeat (first | refine blk_drewN ?_ _ | refine blk_drew ?_ | refine blk_alloc ?_ _)); exact BK354.out⟩
           have n7_ : Aside0 (Below w.heap.size w (((w46.setCell ⟨gb354, 0, none⟩ (.string t348)).setCell ⟨gb354, 1, none⟩ (.int .i64 t349)).setCell ⟨gb354, 2, none⟩ (.slice Ao49 t350.length co49))) := ⟨lb4 HB GE329 GE338 GE346 GE354⟩
           (try clear HO336)
           (try clear HO344)
           (try clear HO352)
           (try clear BK329)
           (try clear BK338)
           (try clear BK346)
           (try clear BK354)
           (try clear HB)
           generalize (((w46.setCell ⟨gb354, 0, none⟩ (.string t348)).setCell ⟨gb354, 1, none⟩ (.int .i64 t349)).setCell ⟨gb354, 2, none⟩ (.slice Ao49 t350.length co49)) = w51 at n0_ n1_ n2_ n3_ n4_ n5_ n6_ n7_ ⊢
           have HO336 := n0_
           have HO344 := n1_
           have HO352 := n2_
           have BK329 := n3_
           have BK338 := n4_
           have BK346 := n5_
           have BK354 := n6_
           have HB := n7_
           clear n0_ n1_ n2_ n3_ n4_ n5_ n6_ n7_
           have n0_ := Aside0.mk (Kd.R_drew HO336.out)
           have n1_ := Aside0.mk (Kd.R_drew HO344.out)
           have n2_ := Aside0.mk (Kd.R_drew HO352.out)
           have n3_ := Aside0.mk (blk_drew BK329.out)
           have n4_ := Aside0.mk (blk_drew BK338.out)
           have n5_ := Aside0.mk (blk_drew BK346.out)
           have n6_ := Aside0.mk (blk_drew BK354.out)
           have n7_ := Aside0.mk (below_drew1 HB.out)
           clear HO336
           clear HO344
           clear HO352
           clear BK329
           clear BK338
           clear BK346
           clear BK354
           clear HB
           have HO336 := n0_
           have HO344 := n1_
           have HO352 := n2_
           have BK329 := n3_
           have BK338 := n4_
           have BK346 := n5_
           have BK354 := n6_
           have HB := n7_
           clear n0_ n1_ n2_ n3_ n4_ n5_ n6_ n7_
           have p355 : 0 ≤ (t339 : Int) := of_decide_eq_true (by first | (with_reducible assumption) | assumption)
           have q355 : t339 < (l0_2.length : Int) := of_decide_eq_true (by first | (with_reducible assumption) | assumption)
           obtain ⟨ad355, e355, hx355_0, hx355_1, hx355_2⟩ := at_T54 HR0_2.out t339 p355 q355
           have hw355_2 := hx355_2
           have hw355_1 := hx355_1
           have hw355_0 := hx355_0
           obtain rfl : ad347 = ad355 := (by injection e355)
           replace hx355_0 := (HB.out.cell (World.block_lt_of_cell? w _ hx355_0)).trans hx355_0
           replace hx355_1 := (HB.out.cell (World.block_lt_of_cell? w _ hx355_1)).trans hx355_1
           replace hx355_2 := (HB.out.cell (World.block_lt_of_cell? w _ hx355_2)).trans hx355_2
           replace p355 := eq_true p355
           replace q355 := eq_true q355
           refine start_ (n := 27) (S := fun w' => w'.cell? ⟨gb354, 0, none⟩ = some (.string t348) ∧ w'.cell? ⟨gb354, 1, none⟩ = some (.int .i64 t349) ∧ w'.cell? ⟨gb354, 2, none⟩ = some (.slice Ao49 t350.length co49) ∧ w'.cell? ⟨gb329, 0, none⟩ = some (.string a0_0) ∧ w'.cell? ⟨gb329, 1, none⟩ = some (.int .i64 a0_1) ∧ w'.cell? ⟨gb329, 2, none⟩ = some (.slice (some ad347) l0_2.length c0_2) ∧ w'.cell? ⟨gb338, 0, none⟩ = some (.string t332) ∧ w'.cell? ⟨gb338, 1, none⟩ = some (.int .i64 t333) ∧ w'.cell? ⟨gb338, 2, none⟩ = some (.slice Ao30 t334.length co30) ∧ w'.cell? (ad347.add ((t339).toNat * 3)) = some (.int .i64 ((rd_T54 l0_2 t339).f0)) ∧ w'.cell? ⟨(ad347.add ((t339).toNat * 3)).block, (ad347.add ((t339).toNat * 3)).off + 1, none⟩ = some (.int .i64 ((rd_T54 l0_2 t339).f1)) ∧ w'.cell? ⟨(ad347.add ((t339).toNat * 3)).block, (ad347.add ((t339).toNat * 3)).off + 2, none⟩ = some (.int .i64 ((rd_T54 l0_2 t339).f2))) (ds := []) #[false, false, false, false, false, false, false, false, false, false, false, false, false, false, false, false, false, false, false, false, false, false, false, false, false, false, false] (by kernel_rfl) rfl rfl ⟨(blk_cell BK354.out 0).trans rfl, (blk_cell BK354.out 1).trans rfl, (blk_cell BK354.out 2).trans rfl, (blk_cell BK329.out 0).trans rfl, (blk_cell BK329.out 1).trans rfl, (blk_cell BK329.out 2).trans rfl, (blk_cell BK338.out 0).trans rfl, (blk_cell BK338.out 1).trans rfl, (blk_cell BK338.out 2).trans rfl, ((HB.out.cell (World.block_lt_of_cell? w _ hw355_0)).trans hw355_0), ((HB.out.cell (World.block_lt_of_cell? w _ hw355_1)).trans hw355_1), ((HB.out.cell (World.block_lt_of_cell? w _ hw355_2)).trans hw355_2)⟩ (fun hHeld => ?_); refine with_tabW crossbarlaw28_PrepaidSettleBounded.tab13 crossbarlaw28_PrepaidSettleBounded.bits13 (fun HT_ HW_ => ?_)
           generalize w51.drew = w52 at HO336 HO344 HO352 BK329 BK338 BK346 BK354 HB hx355_0 hx355_1 hx355_2 hHeld ⊢
           refine p_ 0 76 HT_ ?_
           refine p_ 1 77 HT_ ?_
           refine p_ 2 78 HT_ ?_
           refine p_ 3 79 HT_ ?_
           refine p_ 5 81 HT_ ?_
           refine t_ 4 80 HT_ HW_ rfl rfl hHeld (by rintro w' ⟨s0, s1, s2, s3, s4, s5, s6, s7, s8, s9, s10, s11⟩; go_simp; with_reducible rfl) ?_
           refine t_ 6 82 HT_ HW_ rfl rfl hHeld (by rintro w' ⟨s0, s1, s2, s3, s4, s5, s6, s7, s8, s9, s10, s11⟩; go_simp; with_reducible rfl) ?_
           refine p_ 7 83 HT_ ?_
           refine p_ 8 84 HT_ ?_
           refine p_ 9 85 HT_ ?_
           refine p_ 10 86 HT_ ?_
           refine p_ 12 88 HT_ ?_
           refine p_ 14 90 HT_ ?_
           refine p_ 16 92 HT_ ?_
           refine p_ 21 97 HT_ ?_
           refine t_ 11 87 HT_ HW_ rfl rfl hHeld (by rintro w' ⟨s0, s1, s2, s3, s4, s5, s6, s7, s8, s9, s10, s11⟩; go_simp; with_reducible rfl) ?_
           refine t_ 13 89 HT_ HW_ rfl rfl hHeld (by rintro w' ⟨s0, s1, s2, s3, s4, s5, s6, s7, s8, s9, s10, s11⟩; go_simp; with_reducible rfl) ?_
           refine t_ 15 91 HT_ HW_ rfl rfl hHeld (by rintro w' ⟨s0, s1, s2, s3, s4, s5, s6, s7, s8, s9, s10, s11⟩; go_simp; with_reducible rfl) ?_
           refine p_ 17 93 HT_ ?_
           refine p_ 18 94 HT_ ?_
           refine t_ 19 95 HT_ HW_ rfl rfl hHeld (by rintro w' ⟨s0, s1, s2, s3, s4, s5, s6, s7, s8, s9, s10, s11⟩; go_simp; with_reducible rfl) ?_
           refine p_ 20 96 HT_ ?_
           refine p_ 22 98 HT_ ?_
           refine p_ 23 99 HT_ ?_
           refine p_ 24 100 HT_ ?_
           refine p_ 25 101 HT_ ?_
           refine p_ 26 6 HT_ ?_
           refine done_ (done_of HT_.out (by kernel_rfl)) ?_
           try go_wp2
           go_ret
           exact ⟨by first | rfl | (simp [errW_none, errW_some] <;> rfl) | (simp only [← hji20]; first | rfl | (simp [errW_none, errW_some] <;> rfl)) | (simp [*, errW_none, errW_some] <;> rfl), lb4 HB GE329 GE338 GE346 GE354⟩
          ·rw [if_neg c19] at H
           have c19b0 : (t349 == a0_1) = false := beq_eq_false_iff_ne.mpr c19
           have c19b1 : (t349 != a0_1) = true := bne_iff_ne.mpr c19
           exact absurd ((Option.some.inj H).trans HT_TRUE.out) (by simp)
         ·rw [if_neg c18] at H
          have c18b0 : (t353 == 0) = false := beq_eq_false_iff_ne.mpr c18
          have c18b1 : (t353 != 0) = true := bne_iff_ne.mpr c18
          exact absurd ((Option.some.inj H).trans HT_TRUE.out) (by simp)
        ·rw [if_neg c16] at H
         exact absurd H (by simp)
       ·rw [if_neg c15] at H
        exact absurd H (by simp)
      ·rw [if_neg c14] at H
       have c14b0 : ((t334.length : Int) == (wrap64 ((l0_2.length : Int) - 1))) = false := beq_eq_false_iff_ne.mpr c14
       have c14b1 : ((t334.length : Int) != (wrap64 ((l0_2.length : Int) - 1))) = true := bne_iff_ne.mpr c14
       exact absurd ((Option.some.inj H).trans HT_TRUE.out) (by simp)
     ·rw [if_neg c13] at H
      have c13b0 : (t345 == 1) = false := beq_eq_false_iff_ne.mpr c13
      have c13b1 : (t345 != 1) = true := bne_iff_ne.mpr c13
      exact absurd ((Option.some.inj H).trans HT_TRUE.out) (by simp)
   ·rw [if_neg c9] at H
    have c9b0 : (t337 == 0) = false := beq_eq_false_iff_ne.mpr c9
    have c9b1 : (t337 != 0) = true := bne_iff_ne.mpr c9
    by_cases c53 : t333 = 0
    ·rw [if_pos c53] at H
     have c53b0 : (t333 == 0) = true := beq_iff_eq.mpr c53
     have c53b1 : (t333 != 0) = false := bne_eq_false_iff_eq.mpr c53
     clear c53
     obtain rfl := Option.some.inj H
     go_enter Tryd.func7, Tryd.ntmps7
     go_wp2_with (first | ((with_reducible refine gate_dst (N := 3) rfl ?_); (try (refine gate_guard (by rfl) ?_; dsimp only)); refine box_event ?hg (N := 3) ?hd (cs := #[.string a0_0, .int .i64 a0_1, .slice A0_2 l0_2.length c0_2]) (t := 31) ?hr ?_; (case hd => rfl); (case hg => rfl); (case hr => first | (go_simp; done) | (go_simp; rfl)); intro gb329 hg w54 hbox hb; have n0_ := ls0 HB hb; have n1_ := Aside0.mk (hbox); have n2_ := Aside0.mk ((by rw [hg]; exact (below_size (lb0 HB)) : w.heap.size ≤ gb329)); have n3_ := Aside0.mk ((by rw [hg]; exact (below_size (lb0 HB)) : w.heap.size ≤ gb329)); clear HB; have HB := n0_; have BK329 := n1_; have GW329 := n2_; have GE329 := n3_; clear n0_ n1_ n2_ n3_; clear hb hbox hg) | ((with_reducible refine gate_callee (f := 21) rfl ?_); refine goesL_ (some 14) rfl rfl Tryd.func21 (by kernel_rfl) rfl #[] rfl (by (try simp only [List.map_toArray, List.map_cons, List.map_nil]); first | done | rfl | (simp only [List.length_drop, List.length_take]; rfl)) ?_; (with_reducible refine (crossbarlaw28_sane.calls k  true _ A4.out).mono ?_); rintro e w55 ⟨rfl, hb⟩; refine ⟨_, rfl, ?_⟩; have n0_ := kl BK329 hb; have n1_ := ls1 HB GE329 hb; clear BK329; clear HB; have BK329 := n0_; have HB := n1_; clear n0_ n1_; (try clear hb); (try clear hb2); (try clear hk); (try clear hi); have hcz56_0 := bc BK329 0; have hcz56_1 := bc BK329 1; have hcz56_2 := bc BK329 2; have hfz56_0 := blk_frozen BK329.out 0; have hfz56_1 := blk_frozen BK329.out 1; have hfz56_2 := blk_frozen BK329.out 2) | ((with_reducible refine gate_callee (f := 22) rfl ?_); refine goesL_ (some 18) rfl rfl Tryd.func22 (by kernel_rfl) rfl #[.agg #[.string a0_0, .int .i64 a0_1, .slice A0_2 l0_2.length c0_2], .agg #[.slice none 0 0]] rfl (by (try simp only [List.map_toArray, List.map_cons, List.map_nil]); first | done | rfl | (simp only [List.length_drop, List.length_take]; rfl)) ?_; (refine (crossbarref28_Few.calls a0_0 a0_1 _ _ l0_2 _ _ ([] : List (S70)) true _ ?side1 ?side2 ?side3 ?side4 A6.out).mono ?_); (case side1 => repeat (first | exact (Kd.C_below HR0_2.out HB.out) | (with_reducible refine Kd.C_alloc ?_ _) | (with_reducible refine Kd.C_drewN ?_ _) | (with_reducible refine Kd.C_drew ?_))); (case side2 => exact HC0_2.out); (case side3 => exact Kd.C_nil _ _); (case side4 => exact Nat.le_refl _); rintro e w57 ⟨rfl, hb⟩; refine ⟨_, rfl, ?_⟩; have n0_ := kl BK329 hb; have n1_ := ls1 HB GE329 hb; clear BK329; clear HB; have BK329 := n0_; have HB := n1_; clear n0_ n1_; (try clear hb); (try clear hb2); (try clear hk); (try clear hi); have hcz58_0 := bc BK329 0; have hcz58_1 := bc BK329 1; have hcz58_2 := bc BK329 2; have hfz58_0 := blk_frozen BK329.out 0; have hfz58_1 := blk_frozen BK329.out 1; have hfz58_2 := blk_frozen BK329.out 2) | ((with_reducible refine gate_callee (f := 20) rfl ?_); refine goesL_ (some 24) rfl rfl Tryd.func20 (by kernel_rfl) rfl #[.agg #[.string a0_0, .int .i64 a0_1, .slice A0_2 l0_2.length c0_2], .int .i64 a1, .int .i64 a2] rfl (by (try simp only [List.map_toArray, List.map_cons, List.map_nil]); first | done | rfl | (simp only [List.length_drop, List.length_take]; rfl)) ?_; (with_reducible refine (prepaid_Settle.calls a0_0 a0_1 _ _ l0_2 a1 a2 t332 t333 t334 t337 _ ?side1 ?side2 A8.out).mono ?_); (case side1 => repeat (first | exact (Kd.C_below HR0_2.out HB.out) | (with_reducible refine Kd.C_alloc ?_ _) | (with_reducible refine Kd.C_drewN ?_ _) | (with_reducible refine Kd.C_drew ?_))); (case side2 => exact HC0_2.out); rintro e w59 ⟨v335, rfl, ho0, hb⟩; refine ⟨_, rfl, ?_⟩; have n0_ := Aside0.mk (Kd.R_lower ho0 (below_size (lb1 HB GE329))); have n1_ := kl BK329 hb; have n2_ := ls1 HB GE329 hb; clear BK329; clear HB; have HO336 := n0_; have BK329 := n1_; have HB := n2_; clear n0_ n1_ n2_; (try clear hb); (try clear hb2); (try clear hk); (try clear hi); (try clear ho0)) | ((with_reducible refine gate_dst (N := 7) rfl ?_); (try (refine gate_guard (by rfl) ?_; dsimp only)); refine box_event ?hg (N := 7) ?hd (cs := #[.string (⟨#[]⟩ : ByteArray), .int .i64 0, .slice none 0 0]) (t := 31) ?hr ?_; (case hd => rfl); (case hg => rfl); (case hr => first | (go_simp; done) | (go_simp; rfl)); intro gb338 hg w60 hbox hb; have n0_ := Aside0.mk (Kd.R_below (rk HO336) hb); have n1_ := kl BK329 hb; have n2_ := ls1 HB GE329 hb; have n3_ := Aside0.mk (hbox); have n4_ := Aside0.mk ((by rw [hg]; exact (below_size (lb1 HB GE329)) : w.heap.size ≤ gb338)); have n5_ := Aside0.mk ((by rw [hg]; exact (below_size (lb1 HB GE329)) : w.heap.size ≤ gb338)); have n6_ := kn BK329 hg; have n7_ := km BK329 hg; clear HO336; clear BK329; clear HB; have HO336 := n0_; have BK329 := n1_; have HB := n2_; have BK338 := n3_; have GW338 := n4_; have GE338 := n5_; have NB329_338 := n6_; have NB338_329 := n7_; clear n0_ n1_ n2_ n3_ n4_ n5_ n6_ n7_; clear hb hbox hg; have hnb61 := NB338_329.out; have hnc61 := NB329_338.out; have hcz62_0 := bc BK338 0; have hcz62_1 := bc BK338 1; have hcz62_2 := bc BK338 2; have hfz62_0 := blk_frozen BK338.out 0; have hfz62_1 := blk_frozen BK338.out 1; have hfz62_2 := blk_frozen BK338.out 2; obtain ⟨Ao63, co63, eo63⟩ := Kd.R_slice HO336.out; subst eo63))
     go_ret
     exact ⟨by first | rfl | (simp [errW_none, errW_some] <;> rfl) | (simp [*, errW_none, errW_some] <;> rfl), lb2 HB GE329 GE338⟩
    ·rw [if_neg c53] at H
     have c53b0 : (t333 == 0) = false := beq_eq_false_iff_ne.mpr c53
     have c53b1 : (t333 != 0) = true := bne_iff_ne.mpr c53
     exact absurd ((Option.some.inj H).trans HT_TRUE.out) (by simp)
  ·replace c7 := Bool.eq_false_iff.mpr c7
   subst c7
   have H1 : (some true) = some r := by rw [if_neg (show ¬ (false = true) by decide)] at H; exact H
   clear H
   have H := H1
   clear H1
   obtain rfl := Option.some.inj H
   go_enter Tryd.func7, Tryd.ntmps7
   go_wp2_with (first | ((with_reducible refine gate_dst (N := 3) rfl ?_); (try (refine gate_guard (by rfl) ?_; dsimp only)); refine box_event ?hg (N := 3) ?hd (cs := #[.string a0_0, .int .i64 a0_1, .slice A0_2 l0_2.length c0_2]) (t := 31) ?hr ?_; (case hd => rfl); (case hg => rfl); (case hr => first | (go_simp; done) | (go_simp; rfl)); intro gb329 hg w64 hbox hb; have n0_ := ls0 HB hb; have n1_ := Aside0.mk (hbox); have n2_ := Aside0.mk ((by rw [hg]; exact (below_size (lb0 HB)) : w.heap.size ≤ gb329)); have n3_ := Aside0.mk ((by rw [hg]; exact (below_size (lb0 HB)) : w.heap.size ≤ gb329)); clear HB; have HB := n0_; have BK329 := n1_; have GW329 := n2_; have GE329 := n3_; clear n0_ n1_ n2_ n3_; clear hb hbox hg) | ((with_reducible refine gate_callee (f := 21) rfl ?_); refine goesL_ (some 14) rfl rfl Tryd.func21 (by kernel_rfl) rfl #[] rfl (by (try simp only [List.map_toArray, List.map_cons, List.map_nil]); first | done | rfl | (simp only [List.length_drop, List.length_take]; rfl)) ?_; (with_reducible refine (crossbarlaw28_sane.calls k  true _ A4.out).mono ?_); rintro e w65 ⟨rfl, hb⟩; refine ⟨_, rfl, ?_⟩; have n0_ := kl BK329 hb; have n1_ := ls1 HB GE329 hb; clear BK329; clear HB; have BK329 := n0_; have HB := n1_; clear n0_ n1_; (try clear hb); (try clear hb2); (try clear hk); (try clear hi); have hcz66_0 := bc BK329 0; have hcz66_1 := bc BK329 1; have hcz66_2 := bc BK329 2; have hfz66_0 := blk_frozen BK329.out 0; have hfz66_1 := blk_frozen BK329.out 1; have hfz66_2 := blk_frozen BK329.out 2) | ((with_reducible refine gate_callee (f := 22) rfl ?_); refine goesL_ (some 18) rfl rfl Tryd.func22 (by kernel_rfl) rfl #[.agg #[.string a0_0, .int .i64 a0_1, .slice A0_2 l0_2.length c0_2], .agg #[.slice none 0 0]] rfl (by (try simp only [List.map_toArray, List.map_cons, List.map_nil]); first | done | rfl | (simp only [List.length_drop, List.length_take]; rfl)) ?_; (refine (crossbarref28_Few.calls a0_0 a0_1 _ _ l0_2 _ _ ([] : List (S70)) false _ ?side1 ?side2 ?side3 ?side4 A6.out).mono ?_); (case side1 => repeat (first | exact (Kd.C_below HR0_2.out HB.out) | (with_reducible refine Kd.C_alloc ?_ _) | (with_reducible refine Kd.C_drewN ?_ _) | (with_reducible refine Kd.C_drew ?_))); (case side2 => exact HC0_2.out); (case side3 => exact Kd.C_nil _ _); (case side4 => exact Nat.le_refl _); rintro e w67 ⟨rfl, hb⟩; refine ⟨_, rfl, ?_⟩; have n0_ := kl BK329 hb; have n1_ := ls1 HB GE329 hb; clear BK329; clear HB; have BK329 := n0_; have HB := n1_; clear n0_ n1_; (try clear hb); (try clear hb2); (try clear hk); (try clear hi)))
   go_ret
   exact ⟨by first | rfl | (simp [errW_none, errW_some] <;> rfl) | (simp [*, errW_none, errW_some] <;> rfl), lb1 HB GE329⟩
 ·replace c5 := Bool.eq_false_iff.mpr c5
  subst c5
  have H1 : (some false) = some r := by rw [if_neg (show ¬ (false = true) by decide)] at H; exact H
  clear H
  have H := H1
  clear H1
  exact absurd ((Option.some.inj H).trans HT_TRUE.out) (by simp)

end Go.Proofs.YtldpacphackdjaaDoor.Print
/- That the printed law PrepaidSettleBounded answers true at every account, call and number of units. No condition that the law itself does not guard. -/
namespace Go.Proofs.YtldpacphackdjaaDoor.Print
open Go.RowKit Go.Proofs.YtldpacphackdjaaDoorW.PrintWords Go.Proofs.YtldpacphackdjaaDoorW.PrintLast Go.Proofs.YtldpacphackdjaaDoorW.PrintMore
set_option linter.unusedVariables false
theorem PrepaidSettleBounded_pure (s : ByteArray) (b : Int) (l : List S54) (ref used : Int) (hs : s.size ≤ maxLen) (hb : Rng b) (hn : l.length ≤ 9223372036854775807) (hw : ∀ x ∈ l, Rng x.f0 ∧ Rng x.f1 ∧ Rng x.f2) (w1 : (Lit.int .i64 ref).wf = true) (w2 : (Lit.int .i64 used).wf = true) : ∃ k, crossbarlaw28_PrepaidSettleBounded.f k s b l ref used = some true := by
  refine ⟨3000, ?_⟩
  have hu := Rng.of_wf w2
  unfold Rng at hu
  unfold crossbarlaw28_PrepaidSettleBounded.f
  rw [sane28_is 3000 (by omega), Option.bind_some, if_pos rfl, few28_is, Option.bind_some]
  by_cases hf : l.length ≤ 1100 ∧ s.size ≤ 100 ∧ ([] : List S70).length ≤ 100
  · rw [if_pos (decide_eq_true hf)]
    by_cases hok : Acc s b l ∧ 0 ≤ used ∧ foundH ref l = true
    · obtain ⟨ha, hu0, hfo⟩ := hok
      have hi := found_lt hfo
      have hbd := units_bd ha _ hi
      have hr := restB_bd ha.bal.1 hbd.1 hbd.2.2.1 hu0 hu.2
      have ha2 := acc_settle ha _ hi _ hr.1 hr.2
      have hlen := ha.len
      rw [settle_ok ha ref used hu0 hfo]
      simp only [Option.bind_some]
      rw [if_pos trivial, find_sorted ha.holds (by omega) ref s b 3000 (by omega), Option.bind_some, if_pos hfo]
      obtain ⟨e, he, _, he1⟩ := settle_no (s := s) (b := restB b (rd_T54 l (placeH ref l : Int)).f1 used) (l := dropH (placeH ref l) l) ref used (fun h => by
        have := found_drop ha.holds ref hfo
        rw [this] at h
        exact absurd h.2.2 (by simp))
      have he2 := he1 ha2
      subst he2
      rw [he]
      simp only [Option.bind_some]
      rw [if_neg (by omega), if_pos trivial, length_drop l _ hi, if_pos (by rw [show wrap64 ((l.length : Int) - 1) = (l.length : Int) - 1 by unfold wrap64; omega]; omega), if_pos (by omega), if_pos (by omega), settle_ok ha ref _ hbd.1 hfo]
      simp only [Option.bind_some]
      rw [if_pos trivial, restB_is ha.bal.1 hbd.1 hbd.2.2.1 hbd.1 (by omega), if_pos (by have := ha.bal; unfold mx; split <;> omega)]
      rw [show wrap64 (b + (rd_T54 l (placeH ref l : Int)).f1) = b + (rd_T54 l (placeH ref l : Int)).f1 by have := ha.bal; unfold wrap64; omega]
      unfold restB
      simp
    · obtain ⟨e, he, hne, _⟩ := settle_no ref used hok
      rw [he]
      simp only [Option.bind_some]
      rw [if_neg hne]
      rfl
  · rw [if_neg (by simpa using hf)]
end Go.Proofs.YtldpacphackdjaaDoor.Print
