/- Parts of the proofs of layer 28's laws, joined in one file by a program of the session; each part begins with its own sentence. -/
import Derived.Test.YtldpacphackdjaaDoorZaSq
import Derived.Test.YtldpacphackdjaaDoorZa5
import Derived.Test.YtldpacphackdjaaDoorZaK0
import Derived.Test.YtldpacphackdjaaDoorZa4
import Derived.Test.YtldpacphackdjaaDoorZaF21
import Derived.Test.YtldpacphackdjaaDoorZa6
/- That the call of function 11 (crossbarlaw28_PrepaidReservationPaysAhead) answers what the Lean function of the same name answers, at every input at which that one answers. (Written by a program of the session, which drives the kit's printer.) -/
namespace Go.Proofs.YtldpacphackdjaaDoor.Print
open Go.RowKit Go.Proofs.YtldpacphackdjaaDoorW.PrintWords Go.Proofs.YtldpacphackdjaaDoorW.PrintLast Go.Proofs.YtldpacphackdjaaDoorW.PrintMore
attribute [local go_sem] max2_int min2_int max_two min_two max_three min_three max_four min_four   -- for this text's walks alone
set_option linter.unusedVariables false
set_option linter.unusedSimpArgs false

/-! ### crossbarlaw28_PrepaidReservationPaysAhead: function 11 -/
mutual
def crossbarlaw28_PrepaidReservationPaysAhead.j0 : Nat → Int → Int → Int → Int → Int → ByteArray → Int → List (S54) → List (S70) → ByteArray → Int → List (S54) → Option (Bool)
 | 0, _, _, _, _, _, _, _, _, _, _, _, _ => none
 | k + 1, x2, x3, x10, x12, x13, x477000, x477001, x477002, x478000, x488000, x488001, x488002 => (crossbarref28_Find.f k x488000 x488001 x488002 x2).bind fun t491 => ((tariff_Price.f k x478000 x12 x10).bind fun bt492 => (if t491 < 0 then (crossbarlaw28_PrepaidReservationPaysAhead.j1 k x3 x10 x12 true x478000 x488000 x488001 x488002) else (if bt492.2 = 0 then (if 0 ≤ t491 then (if t491 < (x488002.length : Int) then (if ((rd_T54 x488002 t491).f2) = x10 then (if ((rd_T54 x488002 t491).f1) = (wrap64 (x13 + bt492.1)) then (crossbarlaw28_PrepaidReservationPaysAhead.j1 k x3 x10 x12 (x488001 != (wrap64 (x477001 - bt492.1))) x478000 x488000 x488001 x488002) else (crossbarlaw28_PrepaidReservationPaysAhead.j1 k x3 x10 x12 true x478000 x488000 x488001 x488002)) else (crossbarlaw28_PrepaidReservationPaysAhead.j1 k x3 x10 x12 true x478000 x488000 x488001 x488002)) else (none)) else (none)) else (crossbarlaw28_PrepaidReservationPaysAhead.j1 k x3 x10 x12 true x478000 x488000 x488001 x488002))))
def crossbarlaw28_PrepaidReservationPaysAhead.j1 : Nat → Int → Int → Int → Bool → List (S70) → ByteArray → Int → List (S54) → Option (Bool)
 | 0, _, _, _, _, _, _, _, _ => none
 | k + 1, x3, x10, x12, x114, x478000, x488000, x488001, x488002 => if x114 = true then (some false) else (if x10 ≤ x3 then (crossbarlaw28_PrepaidReservationPaysAhead.j2 k x10 (mn (wrap64 ((mx x12 x3) + 30)) 1099511627776) true x478000 x488000 x488001 x488002) else (crossbarlaw28_PrepaidReservationPaysAhead.j2 k x10 (mn (wrap64 ((mx x12 x3) + 30)) 1099511627776) (decide (x10 > (mn (wrap64 ((mx x12 x3) + 30)) 1099511627776))) x478000 x488000 x488001 x488002))
def crossbarlaw28_PrepaidReservationPaysAhead.j2 : Nat → Int → Int → Bool → List (S70) → ByteArray → Int → List (S54) → Option (Bool)
 | 0, _, _, _, _, _, _, _ => none
 | k + 1, x10, x17, x127, x478000, x488000, x488001, x488002 => if x127 = true then (some false) else (if x10 = x17 then (some true) else ((tariff_Rate.f k x478000 x10).bind fun bt496 => (if bt496.2 = 0 then (some (decide (bt496.1 > x488001))) else (some false))))
end
def crossbarlaw28_PrepaidReservationPaysAhead.f (k : Nat) (a0_0 : ByteArray) (a0_1 : Int) (l0_2 : List (S54)) (l1_0 : List (S70)) (a2 : Int) (a3 : Int) : Option (Bool) := (crossbarlaw28_sane.f k).bind fun t478 => (if t478 = true then ((crossbarref28_Few.f a0_0 a0_1 l0_2 l1_0).bind fun t479 => (if t479 = true then ((prepaid_Reserve.f a0_0 a0_1 l0_2 l1_0 a2 a3).bind fun bt480 => (if bt480.2.2.2.2 = 0 then ((crossbarref28_Find.f k a0_0 a0_1 l0_2 a2).bind fun t488 => (if t488 ≥ 0 then (if 0 ≤ t488 then (if t488 < (l0_2.length : Int) then (crossbarlaw28_PrepaidReservationPaysAhead.j0 k a2 a3 bt480.2.2.2.1 ((rd_T54 l0_2 t488).f2) ((rd_T54 l0_2 t488).f1) a0_0 a0_1 l0_2 l1_0 bt480.1 bt480.2.1 bt480.2.2.1) else (none)) else (none)) else (crossbarlaw28_PrepaidReservationPaysAhead.j0 k a2 a3 bt480.2.2.2.1 a3 0 a0_0 a0_1 l0_2 l1_0 bt480.1 bt480.2.1 bt480.2.2.1))) else (if bt480.2.2.2.1 = 0 then (if (bt480.2.2.1.length : Int) = 0 then (some (bt480.2.1 == 0)) else (some false)) else (some false)))) else (some true))) else (some false))
set_option maxHeartbeats 8000000 in
set_option maxRecDepth 100000 in
theorem crossbarlaw28_PrepaidReservationPaysAhead.calls (k : Nat) (a0_0 : ByteArray) (a0_1 : Int) (A0_2 : Option Addr) (c0_2 : Nat) (l0_2 : List (S54)) (A1_0 : Option Addr) (c1_0 : Nat) (l1_0 : List (S70)) (a2 : Int) (a3 : Int) (r : Bool) (w : World) (hr0_2 : Kd.C k54 w A0_2 l0_2.length l0_2) (hc0_2 : l0_2.length ≤ c0_2) (hr1_0 : Kd.C k70 w A1_0 l1_0.length l1_0) (hc1_0 : l1_0.length ≤ c1_0) (h : crossbarlaw28_PrepaidReservationPaysAhead.f k a0_0 a0_1 l0_2 l1_0 a2 a3 = some r) (hT : r = true := by rfl) :
  Calls Tryd.prog 11 #[.agg #[.string a0_0, .int .i64 a0_1, .slice A0_2 l0_2.length c0_2], .agg #[.slice A1_0 l1_0.length c1_0], .int .i64 a2, .int .i64 a3] w fun e w' => e = .returned (.bool r) ∧ Below w.heap.size w w' := by
 have HT_TRUE := Aside0.mk hT
 clear hT
 have hu31 := Tryd.underlying31
 have hu24 := Tryd.underlying24
 have HR0_2 := Aside0.mk hr0_2
 have HC0_2 := Aside0.mk hc0_2
 clear hr0_2 hc0_2
 have HR1_0 := Aside0.mk hr1_0
 have HC1_0 := Aside0.mk hc1_0
 clear hr1_0 hc1_0
 have HB := Aside0.mk (Below.refl w.heap.size w)
 have H : ((crossbarlaw28_sane.f k).bind fun t478 => (if t478 = true then ((crossbarref28_Few.f a0_0 a0_1 l0_2 l1_0).bind fun t479 => (if t479 = true then ((prepaid_Reserve.f a0_0 a0_1 l0_2 l1_0 a2 a3).bind fun bt480 => (if bt480.2.2.2.2 = 0 then ((crossbarref28_Find.f k a0_0 a0_1 l0_2 a2).bind fun t488 => (if t488 ≥ 0 then (if 0 ≤ t488 then (if t488 < (l0_2.length : Int) then (crossbarlaw28_PrepaidReservationPaysAhead.j0 k a2 a3 bt480.2.2.2.1 ((rd_T54 l0_2 t488).f2) ((rd_T54 l0_2 t488).f1) a0_0 a0_1 l0_2 l1_0 bt480.1 bt480.2.1 bt480.2.2.1) else (none)) else (none)) else (crossbarlaw28_PrepaidReservationPaysAhead.j0 k a2 a3 bt480.2.2.2.1 a3 0 a0_0 a0_1 l0_2 l1_0 bt480.1 bt480.2.1 bt480.2.2.1))) else (if bt480.2.2.2.1 = 0 then (if (bt480.2.2.1.length : Int) = 0 then (some (bt480.2.1 == 0)) else (some false)) else (some false)))) else (some true))) else (some false))) = some r := h
 clear h
 replace H := Option.bind_eq_some_iff.mp H
 obtain ⟨t478, A50, H⟩ := H
 replace H : (if t478 = true then ((crossbarref28_Few.f a0_0 a0_1 l0_2 l1_0).bind fun t479 => (if t479 = true then ((prepaid_Reserve.f a0_0 a0_1 l0_2 l1_0 a2 a3).bind fun bt480 => (if bt480.2.2.2.2 = 0 then ((crossbarref28_Find.f k a0_0 a0_1 l0_2 a2).bind fun t488 => (if t488 ≥ 0 then (if 0 ≤ t488 then (if t488 < (l0_2.length : Int) then (crossbarlaw28_PrepaidReservationPaysAhead.j0 k a2 a3 bt480.2.2.2.1 ((rd_T54 l0_2 t488).f2) ((rd_T54 l0_2 t488).f1) a0_0 a0_1 l0_2 l1_0 bt480.1 bt480.2.1 bt480.2.2.1) else (none)) else (none)) else (crossbarlaw28_PrepaidReservationPaysAhead.j0 k a2 a3 bt480.2.2.2.1 a3 0 a0_0 a0_1 l0_2 l1_0 bt480.1 bt480.2.1 bt480.2.2.1))) else (if bt480.2.2.2.1 = 0 then (if (bt480.2.2.1.length : Int) = 0 then (some (bt480.2.1 == 0)) else (some false)) else (some false)))) else (some true))) else (some false)) = some r := H
 have A5 := Aside0.mk A50
 clear A50
 by_cases c6 : t478 = true
 ·subst c6
  have H1 : ((crossbarref28_Few.f a0_0 a0_1 l0_2 l1_0).bind fun t479 => (if t479 = true then ((prepaid_Reserve.f a0_0 a0_1 l0_2 l1_0 a2 a3).bind fun bt480 => (if bt480.2.2.2.2 = 0 then ((crossbarref28_Find.f k a0_0 a0_1 l0_2 a2).bind fun t488 => (if t488 ≥ 0 then (if 0 ≤ t488 then (if t488 < (l0_2.length : Int) then (crossbarlaw28_PrepaidReservationPaysAhead.j0 k a2 a3 bt480.2.2.2.1 ((rd_T54 l0_2 t488).f2) ((rd_T54 l0_2 t488).f1) a0_0 a0_1 l0_2 l1_0 bt480.1 bt480.2.1 bt480.2.2.1) else (none)) else (none)) else (crossbarlaw28_PrepaidReservationPaysAhead.j0 k a2 a3 bt480.2.2.2.1 a3 0 a0_0 a0_1 l0_2 l1_0 bt480.1 bt480.2.1 bt480.2.2.1))) else (if bt480.2.2.2.1 = 0 then (if (bt480.2.2.1.length : Int) = 0 then (some (bt480.2.1 == 0)) else (some false)) else (some false)))) else (some true))) = some r := by rw [if_pos rfl] at H; exact H
  clear H
  have H := H1
  clear H1
  replace H := Option.bind_eq_some_iff.mp H
  obtain ⟨t479, A70, H⟩ := H
  replace H : (if t479 = true then ((prepaid_Reserve.f a0_0 a0_1 l0_2 l1_0 a2 a3).bind fun bt480 => (if bt480.2.2.2.2 = 0 then ((crossbarref28_Find.f k a0_0 a0_1 l0_2 a2).bind fun t488 => (if t488 ≥ 0 then (if 0 ≤ t488 then (if t488 < (l0_2.length : Int) then (crossbarlaw28_PrepaidReservationPaysAhead.j0 k a2 a3 bt480.2.2.2.1 ((rd_T54 l0_2 t488).f2) ((rd_T54 l0_2 t488).f1) a0_0 a0_1 l0_2 l1_0 bt480.1 bt480.2.1 bt480.2.2.1) else (none)) else (none)) else (crossbarlaw28_PrepaidReservationPaysAhead.j0 k a2 a3 bt480.2.2.2.1 a3 0 a0_0 a0_1 l0_2 l1_0 bt480.1 bt480.2.1 bt480.2.2.1))) else (if bt480.2.2.2.1 = 0 then (if (bt480.2.2.1.length : Int) = 0 then (some (bt480.2.1 == 0)) else (some false)) else (some false)))) else (some true)) = some r := H
  have A7 := Aside0.mk A70
  clear A70
  by_cases c8 : t479 = true
  ·subst c8
   have H1 : ((prepaid_Reserve.f a0_0 a0_1 l0_2 l1_0 a2 a3).bind fun bt480 => (if bt480.2.2.2.2 = 0 then ((crossbarref28_Find.f k a0_0 a0_1 l0_2 a2).bind fun t488 => (if t488 ≥ 0 then (if 0 ≤ t488 then (if t488 < (l0_2.length : Int) then (crossbarlaw28_PrepaidReservationPaysAhead.j0 k a2 a3 bt480.2.2.2.1 ((rd_T54 l0_2 t488).f2) ((rd_T54 l0_2 t488).f1) a0_0 a0_1 l0_2 l1_0 bt480.1 bt480.2.1 bt480.2.2.1) else (none)) else (none)) else (crossbarlaw28_PrepaidReservationPaysAhead.j0 k a2 a3 bt480.2.2.2.1 a3 0 a0_0 a0_1 l0_2 l1_0 bt480.1 bt480.2.1 bt480.2.2.1))) else (if bt480.2.2.2.1 = 0 then (if (bt480.2.2.1.length : Int) = 0 then (some (bt480.2.1 == 0)) else (some false)) else (some false)))) = some r := by rw [if_pos rfl] at H; exact H
   clear H
   have H := H1
   clear H1
   replace H := Option.bind_eq_some_iff.mp H
   obtain ⟨⟨t480, t481, t482, t485, t486⟩, A90, H⟩ := H
   replace H : (if t486 = 0 then ((crossbarref28_Find.f k a0_0 a0_1 l0_2 a2).bind fun t488 => (if t488 ≥ 0 then (if 0 ≤ t488 then (if t488 < (l0_2.length : Int) then (crossbarlaw28_PrepaidReservationPaysAhead.j0 k a2 a3 t485 ((rd_T54 l0_2 t488).f2) ((rd_T54 l0_2 t488).f1) a0_0 a0_1 l0_2 l1_0 t480 t481 t482) else (none)) else (none)) else (crossbarlaw28_PrepaidReservationPaysAhead.j0 k a2 a3 t485 a3 0 a0_0 a0_1 l0_2 l1_0 t480 t481 t482))) else (if t485 = 0 then (if (t482.length : Int) = 0 then (some (t481 == 0)) else (some false)) else (some false))) = some r := H
   have A9 := Aside0.mk A90
   clear A90
   by_cases c10 : t486 = 0
   ·rw [if_pos c10] at H
    have c10b0 : (t486 == 0) = true := beq_iff_eq.mpr c10
    have c10b1 : (t486 != 0) = false := bne_eq_false_iff_eq.mpr c10
    clear c10
    replace H := Option.bind_eq_some_iff.mp H
    obtain ⟨t488, A110, H⟩ := H
    replace H : (if t488 ≥ 0 then (if 0 ≤ t488 then (if t488 < (l0_2.length : Int) then (crossbarlaw28_PrepaidReservationPaysAhead.j0 k a2 a3 t485 ((rd_T54 l0_2 t488).f2) ((rd_T54 l0_2 t488).f1) a0_0 a0_1 l0_2 l1_0 t480 t481 t482) else (none)) else (none)) else (crossbarlaw28_PrepaidReservationPaysAhead.j0 k a2 a3 t485 a3 0 a0_0 a0_1 l0_2 l1_0 t480 t481 t482)) = some r := H
    have A11 := Aside0.mk A110
    clear A110
    have HC12 := Aside0.mk H
    clear H
    go_enter Tryd.func11, Tryd.ntmps11
    go_upto_if 55 with (first | ((with_reducible refine gate_dst (N := 4) rfl ?_); (try (refine gate_guard (by rfl) ?_; dsimp only)); refine box_event ?hg (N := 4) ?hd (cs := #[.string a0_0, .int .i64 a0_1, .slice A0_2 l0_2.length c0_2]) (t := 31) ?hr ?_; (case hd => rfl); (case hg => rfl); (case hr => first | (go_simp; done) | (go_simp; rfl)); intro gb476 hg w13 hbox hb; have n0_ := ls0 HB hb; have n1_ := Aside0.mk (hbox); have n2_ := Aside0.mk ((by rw [hg]; exact (below_size (lb0 HB)) : w.heap.size ≤ gb476)); have n3_ := Aside0.mk ((by rw [hg]; exact (below_size (lb0 HB)) : w.heap.size ≤ gb476)); clear HB; have HB := n0_; have BK476 := n1_; have GW476 := n2_; have GE476 := n3_; clear n0_ n1_ n2_ n3_; clear hb hbox hg) | ((with_reducible refine gate_dst (N := 5) rfl ?_); (try (refine gate_guard (by rfl) ?_; dsimp only)); refine box_event ?hg (N := 5) ?hd (cs := #[.slice A1_0 l1_0.length c1_0]) (t := 24) ?hr ?_; (case hd => rfl); (case hg => rfl); (case hr => first | (go_simp; done) | (go_simp; rfl)); intro gb477 hg w14 hbox hb; have n0_ := kl BK476 hb; have n1_ := ls1 HB GE476 hb; have n2_ := Aside0.mk (hbox); have n3_ := Aside0.mk ((by rw [hg]; exact (below_size (lb1 HB GE476)) : w.heap.size ≤ gb477)); have n4_ := Aside0.mk ((by rw [hg]; exact (below_size (lb1 HB GE476)) : w.heap.size ≤ gb477)); have n5_ := kn BK476 hg; have n6_ := km BK476 hg; clear BK476; clear HB; have BK476 := n0_; have HB := n1_; have BK477 := n2_; have GW477 := n3_; have GE477 := n4_; have NB476_477 := n5_; have NB477_476 := n6_; clear n0_ n1_ n2_ n3_ n4_ n5_ n6_; clear hb hbox hg) | ((with_reducible refine gate_callee (f := 21) rfl ?_); refine goesL_ (some 20) rfl rfl Tryd.func21 (by kernel_rfl) rfl #[] rfl (by (try simp only [List.map_toArray, List.map_cons, List.map_nil]); first | done | rfl | (simp only [List.length_drop, List.length_take]; rfl)) ?_; (with_reducible refine (crossbarlaw28_sane.calls k  true _ A5.out).mono ?_); rintro e w15 ⟨rfl, hb⟩; refine ⟨_, rfl, ?_⟩; have n0_ := kl BK476 hb; have n1_ := kl BK477 hb; have n2_ := ls2 HB GE476 GE477 hb; clear BK476; clear BK477; clear HB; have BK476 := n0_; have BK477 := n1_; have HB := n2_; clear n0_ n1_ n2_; (try clear hb); (try clear hb2); (try clear hk); (try clear hi); have hnb16 := NB476_477.out; have hnc16 := NB477_476.out; have hcz17_0 := bc BK476 0; have hcz17_1 := bc BK476 1; have hcz17_2 := bc BK476 2; have hfz17_0 := blk_frozen BK476.out 0; have hfz17_1 := blk_frozen BK476.out 1; have hfz17_2 := blk_frozen BK476.out 2; have hcz18_0 := bc BK477 0; have hfz18_0 := blk_frozen BK477.out 0) | ((with_reducible refine gate_callee (f := 22) rfl ?_); refine goesL_ (some 24) rfl rfl Tryd.func22 (by kernel_rfl) rfl #[.agg #[.string a0_0, .int .i64 a0_1, .slice A0_2 l0_2.length c0_2], .agg #[.slice A1_0 l1_0.length c1_0]] rfl (by (try simp only [List.map_toArray, List.map_cons, List.map_nil]); first | done | rfl | (simp only [List.length_drop, List.length_take]; rfl)) ?_; (with_reducible refine (crossbarref28_Few.calls a0_0 a0_1 _ _ l0_2 _ _ l1_0 true _ ?side1 ?side2 ?side3 ?side4 A7.out).mono ?_); (case side1 => repeat (first | exact (Kd.C_below HR0_2.out HB.out) | (with_reducible refine Kd.C_alloc ?_ _) | (with_reducible refine Kd.C_drewN ?_ _) | (with_reducible refine Kd.C_drew ?_))); (case side2 => exact HC0_2.out); (case side3 => repeat (first | exact (Kd.C_below HR1_0.out HB.out) | (with_reducible refine Kd.C_alloc ?_ _) | (with_reducible refine Kd.C_drewN ?_ _) | (with_reducible refine Kd.C_drew ?_))); (case side4 => exact HC1_0.out); rintro e w19 ⟨rfl, hb⟩; refine ⟨_, rfl, ?_⟩; have n0_ := kl BK476 hb; have n1_ := kl BK477 hb; have n2_ := ls2 HB GE476 GE477 hb; clear BK476; clear BK477; clear HB; have BK476 := n0_; have BK477 := n1_; have HB := n2_; clear n0_ n1_ n2_; (try clear hb); (try clear hb2); (try clear hk); (try clear hi); have hcz20_0 := bc BK476 0; have hcz20_1 := bc BK476 1; have hcz20_2 := bc BK476 2; have hfz20_0 := blk_frozen BK476.out 0; have hfz20_1 := blk_frozen BK476.out 1; have hfz20_2 := blk_frozen BK476.out 2; have hcz21_0 := bc BK477 0; have hfz21_0 := blk_frozen BK477.out 0) | ((with_reducible refine gate_callee (f := 14) rfl ?_); refine goesL_ (some 31) rfl rfl Tryd.func14 (by kernel_rfl) rfl #[.agg #[.string a0_0, .int .i64 a0_1, .slice A0_2 l0_2.length c0_2], .agg #[.slice A1_0 l1_0.length c1_0], .int .i64 a2, .int .i64 a3] rfl (by (try simp only [List.map_toArray, List.map_cons, List.map_nil]); first | done | rfl | (simp only [List.length_drop, List.length_take]; rfl)) ?_; (with_reducible refine (prepaid_Reserve.calls a0_0 a0_1 _ _ l0_2 _ _ l1_0 a2 a3 t480 t481 t482 t485 t486 _ ?side1 ?side2 ?side3 ?side4 A9.out).mono ?_); (case side1 => repeat (first | exact (Kd.C_below HR0_2.out HB.out) | (with_reducible refine Kd.C_alloc ?_ _) | (with_reducible refine Kd.C_drewN ?_ _) | (with_reducible refine Kd.C_drew ?_))); (case side2 => exact HC0_2.out); (case side3 => repeat (first | exact (Kd.C_below HR1_0.out HB.out) | (with_reducible refine Kd.C_alloc ?_ _) | (with_reducible refine Kd.C_drewN ?_ _) | (with_reducible refine Kd.C_drew ?_))); (case side4 => exact HC1_0.out); rintro e w22 ⟨v483, rfl, ho0, hb⟩; refine ⟨_, rfl, ?_⟩; have n0_ := Aside0.mk (Kd.R_lower ho0 (below_size (lb2 HB GE476 GE477))); have n1_ := kl BK476 hb; have n2_ := kl BK477 hb; have n3_ := ls2 HB GE476 GE477 hb; clear BK476; clear BK477; clear HB; have HO484 := n0_; have BK476 := n1_; have BK477 := n2_; have HB := n3_; clear n0_ n1_ n2_ n3_; (try clear hb); (try clear hb2); (try clear hk); (try clear hi); (try clear ho0)) | ((with_reducible refine gate_dst (N := 9) rfl ?_); (try (refine gate_guard (by rfl) ?_; dsimp only)); refine box_event ?hg (N := 9) ?hd (cs := #[.string (⟨#[]⟩ : ByteArray), .int .i64 0, .slice none 0 0]) (t := 31) ?hr ?_; (case hd => rfl); (case hg => rfl); (case hr => first | (go_simp; done) | (go_simp; rfl)); intro gb487 hg w23 hbox hb; have n0_ := Aside0.mk (Kd.R_below (rk HO484) hb); have n1_ := kl BK476 hb; have n2_ := kl BK477 hb; have n3_ := ls2 HB GE476 GE477 hb; have n4_ := Aside0.mk (hbox); have n5_ := Aside0.mk ((by rw [hg]; exact (below_size (lb2 HB GE476 GE477)) : w.heap.size ≤ gb487)); have n6_ := Aside0.mk ((by rw [hg]; exact (below_size (lb2 HB GE476 GE477)) : w.heap.size ≤ gb487)); have n7_ := kn BK476 hg; have n8_ := km BK476 hg; have n9_ := kn BK477 hg; have n10_ := km BK477 hg; clear HO484; clear BK476; clear BK477; clear HB; have HO484 := n0_; have BK476 := n1_; have BK477 := n2_; have HB := n3_; have BK487 := n4_; have GW487 := n5_; have GE487 := n6_; have NB476_487 := n7_; have NB487_476 := n8_; have NB477_487 := n9_; have NB487_477 := n10_; clear n0_ n1_ n2_ n3_ n4_ n5_ n6_ n7_ n8_ n9_ n10_; clear hb hbox hg; have hnb24 := NB487_476.out; have hnc24 := NB476_487.out; have hnb25 := NB487_477.out; have hnc25 := NB477_487.out; have hcz26_0 := bc BK487 0; have hcz26_1 := bc BK487 1; have hcz26_2 := bc BK487 2; have hfz26_0 := blk_frozen BK487.out 0; have hfz26_1 := blk_frozen BK487.out 1; have hfz26_2 := blk_frozen BK487.out 2; obtain ⟨Ao27, co27, eo27⟩ := Kd.R_slice HO484.out; subst eo27; have hcz28_0 := bc BK476 0; have hcz28_1 := bc BK476 1; have hcz28_2 := bc BK476 2; have hfz28_0 := blk_frozen BK476.out 0; have hfz28_1 := blk_frozen BK476.out 1; have hfz28_2 := blk_frozen BK476.out 2) | ((with_reducible refine gate_callee (f := 25) rfl ?_); refine goesL_ (some 53) rfl rfl Tryd.func25 (by kernel_rfl) rfl #[.agg #[.string a0_0, .int .i64 a0_1, .slice A0_2 l0_2.length c0_2], .int .i64 a2] rfl (by (try simp only [List.map_toArray, List.map_cons, List.map_nil]); first | done | rfl | (simp only [List.length_drop, List.length_take]; rfl)) ?_; (with_reducible refine (crossbarref28_Find.calls k a0_0 a0_1 _ _ l0_2 a2 t488 _ ?side1 ?side2 A11.out).mono ?_); (case side1 => exact Kd.C_below HR0_2.out (lb3 HB GE476 GE477 GE487)); (case side2 => exact HC0_2.out); rintro e w29 ⟨rfl, hb⟩; refine ⟨_, rfl, ?_⟩; have n0_ := Aside0.mk (Kd.R_below (by (with_reducible repeat (first | apply Kd.R_alloc | apply Kd.R_drewN | apply Kd.R_drew)); exact (Kd.R_mono (Kd.R_far (p := ⟨gb487, 2, none⟩) (Kd.R_far (p := ⟨gb487, 1, none⟩) (Kd.R_far (p := ⟨gb487, 0, none⟩) (Kd.R_types HO484.out BK487.out (by decide)) (fun _ hk => hk.2) (.string t480)) (fun _ hk => hk.2) (.int .i64 t481)) (fun _ hk => hk.2) (.slice Ao27 t482.length co27)) (fun _ h_ => h_.1))) hb); have n1_ := kl1 BK476 NB476_487 hb; have n2_ := kl1 BK477 NB477_487 hb; have n3_ := Aside0.mk (blk_below (g := gb487) (o := .cells #[.string t480, .int .i64 t481, .slice Ao27 t482.length co27] 31 (0, 0)) (by (with_reducible repeat (first | refine blk_drewN ?_ _ | refine blk_drew ?_ | refine blk_alloc ?_ _)); refine blk_put (cs := #[.string t480, .int .i64 t481, .slice none 0 0]) ?_ 2 _ rfl; (with_reducible repeat (first | refine blk_drewN ?_ _ | refine blk_drew ?_ | refine blk_alloc ?_ _)); refine blk_put (cs := #[.string t480, .int .i64 0, .slice none 0 0]) ?_ 1 _ rfl; (with_reducible repeat (first | refine blk_drewN ?_ _ | refine blk_drew ?_ | refine blk_alloc ?_ _)); refine blk_put (cs := #[.string (⟨#[]⟩ : ByteArray), .int .i64 0, .slice none 0 0]) ?_ 0 _ rfl; (with_reducible repeat (first | refine blk_drewN ?_ _ | refine blk_drew ?_ | refine blk_alloc ?_ _)); exact BK487.out) hb); have n4_ := ls3 HB GE476 GE477 GE487 hb; clear HO484; clear BK476; clear BK477; clear BK487; clear HB; have HO484 := n0_; have BK476 := n1_; have BK477 := n2_; have BK487 := n3_; have HB := n4_; clear n0_ n1_ n2_ n3_ n4_; (try clear hb); (try clear hb2); (try clear hk); (try clear hi)))
    (try simp only [Act.put, List.setIfInBounds_toArray, List.set_cons_zero, List.set_cons_succ])
    go_cut [12, 13] (fun v12 v13 wc => ∃ (kq : Nat) (x12_11 : Int) (x13_11 : Int), v12 = .int .i64 x12_11 ∧ v13 = .int .i64 x13_11 ∧ Aside0 (crossbarlaw28_PrepaidReservationPaysAhead.j0 kq a2 a3 t485 x12_11 x13_11 a0_0 a0_1 l0_2 l1_0 t480 t481 t482 = some r) ∧ Aside0 (kq ≤ k) ∧ Aside0 (Kd.R k54 54 wc w.heap.size (fun _ => True) (.slice Ao27 t482.length co27) t482) ∧ Aside0 (wc.heap[gb476]? = some (.cells #[.string a0_0, .int .i64 a0_1, (.slice A0_2 l0_2.length c0_2)] 31 (0, 0))) ∧ Aside0 (wc.heap[gb477]? = some (.cells #[(.slice A1_0 l1_0.length c1_0)] 24 (0, 0))) ∧ Aside0 (wc.heap[gb487]? = some (.cells #[.string t480, .int .i64 t481, (.slice Ao27 t482.length co27)] 31 (0, 0))) ∧ Aside0 (Below w.heap.size w wc))
    case first =>
     have H := HC12.out
     clear HC12
     by_cases c30 : t488 ≥ 0
     ·rw [if_pos c30] at H
      have c30b0 : decide (0 ≤ t488) = true := decide_eq_true c30
      clear c30
      (first | rw [c30b0] | (simp only [i64_w, i32_w]; rw [c30b0]) | skip)
      by_cases c31 : 0 ≤ t488
      ·rw [if_pos c31] at H
       have c31b0 : decide (0 ≤ t488) = true := decide_eq_true c31
       clear c31
       by_cases c32 : t488 < (l0_2.length : Int)
       ·rw [if_pos c32] at H
        have c32b0 : decide (t488 < (l0_2.length : Int)) = true := decide_eq_true c32
        clear c32
        have H' := Aside0.mk H
        clear H
        have hnb33 := NB476_477.out
        have hnc33 := NB477_476.out
        have hnb34 := NB476_487.out
        have hnc34 := NB487_476.out
        have hcz35_0 := bc BK476 0
        have hcz35_1 := bc BK476 1
        have hcz35_2 := bc BK476 2
        have hfz35_0 := blk_frozen BK476.out 0
        have hfz35_1 := blk_frozen BK476.out 1
        have hfz35_2 := blk_frozen BK476.out 2
        have p489 : 0 ≤ (t488 : Int) := of_decide_eq_true (by first | (with_reducible assumption) | assumption)
        have q489 : t488 < (l0_2.length : Int) := of_decide_eq_true (by first | (with_reducible assumption) | assumption)
        obtain ⟨ad489, e489, hx489_0, hx489_1, hx489_2⟩ := at_T54 HR0_2.out t488 p489 q489
        cases e489
        replace hx489_0 := (HB.out.cell (World.block_lt_of_cell? w _ hx489_0)).trans hx489_0
        replace hx489_1 := (HB.out.cell (World.block_lt_of_cell? w _ hx489_1)).trans hx489_1
        replace hx489_2 := (HB.out.cell (World.block_lt_of_cell? w _ hx489_2)).trans hx489_2
        replace p489 := eq_true p489
        replace q489 := eq_true q489
        have p490 : 0 ≤ (t488 : Int) := of_decide_eq_true (by first | (with_reducible assumption) | assumption)
        have q490 : t488 < (l0_2.length : Int) := of_decide_eq_true (by first | (with_reducible assumption) | assumption)
        obtain ⟨ad490, e490, hx490_0, hx490_1, hx490_2⟩ := at_T54 HR0_2.out t488 p490 q490
        obtain rfl : ad489 = ad490 := (by injection e490)
        replace hx490_0 := (HB.out.cell (World.block_lt_of_cell? w _ hx490_0)).trans hx490_0
        replace hx490_1 := (HB.out.cell (World.block_lt_of_cell? w _ hx490_1)).trans hx490_1
        replace hx490_2 := (HB.out.cell (World.block_lt_of_cell? w _ hx490_2)).trans hx490_2
        replace p490 := eq_true p490
        replace q490 := eq_true q490
        go_wp2
        go_meet
        case rel => exact ⟨_, ((rd_T54 l0_2 t488).f2), ((rd_T54 l0_2 t488).f1), (by first | rfl | (simp; done) | (simp [*]; done)), (by first | rfl | (simp; done) | (simp [*]; done)), H', ⟨by first | omega | exact Nat.le_refl _⟩, ⟨rk HO484⟩, ⟨kb BK476⟩, ⟨kb BK477⟩, ⟨kb BK487⟩, ⟨lb3 HB GE476 GE477 GE487⟩⟩
       ·rw [if_neg c32] at H
        exact absurd H (by simp)
      ·rw [if_neg c31] at H
       exact absurd H (by simp)
     ·rw [if_neg c30] at H
      have c30b0 : decide (0 ≤ t488) = false := decide_eq_false c30
      clear c30
      (first | rw [c30b0] | (simp only [i64_w, i32_w]; rw [c30b0]) | skip)
      have H' := Aside0.mk H
      clear H
      go_wp2
      go_meet
      case rel => exact ⟨_, (a3), (0), (by first | rfl | (simp; done) | (simp [*]; done)), (by first | rfl | (simp; done) | (simp [*]; done)), H', ⟨by first | omega | exact Nat.le_refl _⟩, ⟨rk HO484⟩, ⟨kb BK476⟩, ⟨kb BK477⟩, ⟨kb BK487⟩, ⟨lb3 HB GE476 GE477 GE487⟩⟩
    case rest =>
     clear HC12
     try clear c1; try clear c2; try clear p2; try clear c3; try clear p4; try clear q4; try clear hx4; try clear c6; try clear c8; try clear c10; try clear c10b0; try clear c10b1; try clear c11; try clear c14; try clear c16; try clear c21; try clear c22; try clear c24; try clear c25; try clear c30; try clear c30b0; try clear c31; try clear c31b0; try clear c32; try clear c32b0; try clear c33; try clear c34; try clear hcz17_0; try clear hcz17_1; try clear hcz17_2; try clear hcz18_0; try clear hcz20_0; try clear hcz20_1; try clear hcz20_2; try clear hcz21_0; try clear hcz26_0; try clear hcz26_1; try clear hcz26_2; try clear hcz28_0; try clear hcz28_1; try clear hcz28_2; try clear hcz35_0; try clear hcz35_1; try clear hcz35_2; try clear hfz17_0; try clear hfz17_1; try clear hfz17_2; try clear hfz18_0; try clear hfz20_0; try clear hfz20_1; try clear hfz20_2; try clear hfz21_0; try clear hfz26_0; try clear hfz26_1; try clear hfz26_2; try clear hfz28_0; try clear hfz28_1; try clear hfz28_2; try clear hfz35_0; try clear hfz35_1; try clear hfz35_2; try clear hx489_0; try clear hx489_1; try clear hx489_2; try clear hx490_0; try clear hx490_1; try clear hx490_2; try clear p489; try clear p490; try clear q489; try clear q490
     obtain ⟨kq, x12_11, x13_11, rfl, rfl, HA, HJ11, HO_488002, BK476, BK477, BK487, HB⟩ := hcut
     cases kq with
     | zero => exact absurd HA.out (by simp [crossbarlaw28_PrepaidReservationPaysAhead.j0])
     | succ kj11 =>
      have H := HA.out
      clear HA
      simp only [crossbarlaw28_PrepaidReservationPaysAhead.j0] at H
      replace H := Option.bind_eq_some_iff.mp H
      obtain ⟨t491, A360, H⟩ := H
      replace H : ((tariff_Price.f kj11 l1_0 x12_11 t485).bind fun bt492 => (if t491 < 0 then (crossbarlaw28_PrepaidReservationPaysAhead.j1 kj11 a3 t485 x12_11 true l1_0 t480 t481 t482) else (if bt492.2 = 0 then (if 0 ≤ t491 then (if t491 < (t482.length : Int) then (if ((rd_T54 t482 t491).f2) = t485 then (if ((rd_T54 t482 t491).f1) = (wrap64 (x13_11 + bt492.1)) then (crossbarlaw28_PrepaidReservationPaysAhead.j1 kj11 a3 t485 x12_11 (t481 != (wrap64 (a0_1 - bt492.1))) l1_0 t480 t481 t482) else (crossbarlaw28_PrepaidReservationPaysAhead.j1 kj11 a3 t485 x12_11 true l1_0 t480 t481 t482)) else (crossbarlaw28_PrepaidReservationPaysAhead.j1 kj11 a3 t485 x12_11 true l1_0 t480 t481 t482)) else (none)) else (none)) else (crossbarlaw28_PrepaidReservationPaysAhead.j1 kj11 a3 t485 x12_11 true l1_0 t480 t481 t482)))) = some r := H
      have A36 := Aside0.mk A360
      clear A360
      replace H := Option.bind_eq_some_iff.mp H
      obtain ⟨⟨t492, t493⟩, A370, H⟩ := H
      replace H : (if t491 < 0 then (crossbarlaw28_PrepaidReservationPaysAhead.j1 kj11 a3 t485 x12_11 true l1_0 t480 t481 t482) else (if t493 = 0 then (if 0 ≤ t491 then (if t491 < (t482.length : Int) then (if ((rd_T54 t482 t491).f2) = t485 then (if ((rd_T54 t482 t491).f1) = (wrap64 (x13_11 + t492)) then (crossbarlaw28_PrepaidReservationPaysAhead.j1 kj11 a3 t485 x12_11 (t481 != (wrap64 (a0_1 - t492))) l1_0 t480 t481 t482) else (crossbarlaw28_PrepaidReservationPaysAhead.j1 kj11 a3 t485 x12_11 true l1_0 t480 t481 t482)) else (crossbarlaw28_PrepaidReservationPaysAhead.j1 kj11 a3 t485 x12_11 true l1_0 t480 t481 t482)) else (none)) else (none)) else (crossbarlaw28_PrepaidReservationPaysAhead.j1 kj11 a3 t485 x12_11 true l1_0 t480 t481 t482))) = some r := H
      have A37 := Aside0.mk A370
      clear A370
      have HC38 := Aside0.mk H
      clear H
      have hnb39 := NB487_476.out
      have hnc39 := NB476_487.out
      have hnb40 := NB487_477.out
      have hnc40 := NB477_487.out
      have hcz41_0 := bc BK487 0
      have hcz41_1 := bc BK487 1
      have hcz41_2 := bc BK487 2
      have hfz41_0 := blk_frozen BK487.out 0
      have hfz41_1 := blk_frozen BK487.out 1
      have hfz41_2 := blk_frozen BK487.out 2
      go_upto_region 16 with (first | ((with_reducible refine gate_callee (f := 25) rfl ?_); refine goesL_ (some 70) rfl rfl Tryd.func25 (by kernel_rfl) rfl #[.agg #[.string t480, .int .i64 t481, .slice Ao27 t482.length co27], .int .i64 a2] rfl (by (try simp only [List.map_toArray, List.map_cons, List.map_nil]); first | done | rfl | (simp only [List.length_drop, List.length_take]; rfl)) ?_; (with_reducible refine (crossbarref28_Find.calls kj11 t480 t481 _ _ t482 a2 t491 _ ?side1 ?side2 A36.out).mono ?_); (case side1 => repeat (first | exact (Kd.R_reads' HO_488002.out).2.2 | (with_reducible refine Kd.C_alloc ?_ _) | (with_reducible refine Kd.C_drewN ?_ _) | (with_reducible refine Kd.C_drew ?_))); (case side2 => exact (Kd.R_reads' HO_488002.out).2.1); rintro e w42 ⟨rfl, hb⟩; refine ⟨_, rfl, ?_⟩; have n0_ := Aside0.mk (Kd.R_below (rk HO_488002) hb); have n1_ := kl BK476 hb; have n2_ := kl BK477 hb; have n3_ := kl BK487 hb; have n4_ := ls3 HB GE476 GE477 GE487 hb; clear HO_488002; clear BK476; clear BK477; clear BK487; clear HB; have HO_488002 := n0_; have BK476 := n1_; have BK477 := n2_; have BK487 := n3_; have HB := n4_; clear n0_ n1_ n2_ n3_ n4_; (try clear hb); (try clear hb2); (try clear hk); (try clear hi); have hnb43 := NB477_476.out; have hnc43 := NB476_477.out; have hcz44_0 := bc BK477 0; have hfz44_0 := blk_frozen BK477.out 0) | ((with_reducible refine gate_callee (f := 19) rfl ?_); refine goesL_ (some 75) rfl rfl Tryd.func19 (by kernel_rfl) rfl #[.agg #[.slice A1_0 l1_0.length c1_0], .int .i64 x12_11, .int .i64 t485] rfl (by (try simp only [List.map_toArray, List.map_cons, List.map_nil]); first | done | rfl | (simp only [List.length_drop, List.length_take]; rfl)) ?_; (with_reducible refine (tariff_Price.calls kj11 _ _ l1_0 x12_11 t485 t492 t493 _ ?side1 ?side2 A37.out).mono ?_); (case side1 => repeat (first | exact (Kd.C_below HR1_0.out HB.out) | (with_reducible refine Kd.C_alloc ?_ _) | (with_reducible refine Kd.C_drewN ?_ _) | (with_reducible refine Kd.C_drew ?_))); (case side2 => exact HC1_0.out); rintro e w45 ⟨rfl, hb⟩; refine ⟨_, rfl, ?_⟩; have n0_ := Aside0.mk (Kd.R_below (rk HO_488002) hb); have n1_ := kl BK476 hb; have n2_ := kl BK477 hb; have n3_ := kl BK487 hb; have n4_ := ls3 HB GE476 GE477 GE487 hb; clear HO_488002; clear BK476; clear BK477; clear BK487; clear HB; have HO_488002 := n0_; have BK476 := n1_; have BK477 := n2_; have BK487 := n3_; have HB := n4_; clear n0_ n1_ n2_ n3_ n4_; (try clear hb); (try clear hb2); (try clear hk); (try clear hi)))
      (try simp only [Act.put, List.setIfInBounds_toArray, List.set_cons_zero, List.set_cons_succ])
      go_cut [114] (fun v114 wc => ∃ (kq : Nat) (x114_37 : Bool), v114 = .bool x114_37 ∧ Aside0 (crossbarlaw28_PrepaidReservationPaysAhead.j1 kq a3 t485 x12_11 x114_37 l1_0 t480 t481 t482 = some r) ∧ Aside0 (kq ≤ kj11) ∧ Aside0 (Kd.R k54 54 wc w.heap.size (fun _ => True) (.slice Ao27 t482.length co27) t482) ∧ Aside0 (wc.heap[gb476]? = some (.cells #[.string a0_0, .int .i64 a0_1, (.slice A0_2 l0_2.length c0_2)] 31 (0, 0))) ∧ Aside0 (wc.heap[gb477]? = some (.cells #[(.slice A1_0 l1_0.length c1_0)] 24 (0, 0))) ∧ Aside0 (wc.heap[gb487]? = some (.cells #[.string t480, .int .i64 t481, (.slice Ao27 t482.length co27)] 31 (0, 0))) ∧ Aside0 (Below w.heap.size w wc))
      case first =>
       have H := HC38.out
       clear HC38
       by_cases c46 : t491 < 0
       ·rw [if_pos c46] at H
        have c46b0 : decide (t491 < 0) = true := decide_eq_true c46
        clear c46
        (first | rw [c46b0] | (simp only [i64_w, i32_w]; rw [c46b0]) | skip)
        have H' := Aside0.mk H
        clear H
        go_wp2
        go_meet
        case rel => exact ⟨_, (true), (by first | rfl | (simp; done) | (simp [*]; done)), H', ⟨by have := HJ11.out; first | omega | exact Nat.le_refl _⟩, ⟨rk HO_488002⟩, ⟨kb BK476⟩, ⟨kb BK477⟩, ⟨kb BK487⟩, ⟨lb3 HB GE476 GE477 GE487⟩⟩
       ·rw [if_neg c46] at H
        have c46b0 : decide (t491 < 0) = false := decide_eq_false c46
        clear c46
        (first | rw [c46b0] | (simp only [i64_w, i32_w]; rw [c46b0]) | skip)
        by_cases c47 : t493 = 0
        ·rw [if_pos c47] at H
         have c47b0 : (t493 == 0) = true := beq_iff_eq.mpr c47
         have c47b1 : (t493 != 0) = false := bne_eq_false_iff_eq.mpr c47
         clear c47
         by_cases c48 : 0 ≤ t491
         ·rw [if_pos c48] at H
          have c48b0 : decide (0 ≤ t491) = true := decide_eq_true c48
          clear c48
          by_cases c49 : t491 < (t482.length : Int)
          ·rw [if_pos c49] at H
           have c49b0 : decide (t491 < (t482.length : Int)) = true := decide_eq_true c49
           clear c49
           by_cases c50 : ((rd_T54 t482 t491).f2) = t485
           ·rw [if_pos c50] at H
            have c50b0 : (((rd_T54 t482 t491).f2) == t485) = true := beq_iff_eq.mpr c50
            have c50b1 : (((rd_T54 t482 t491).f2) != t485) = false := bne_eq_false_iff_eq.mpr c50
            clear c50
            by_cases c51 : ((rd_T54 t482 t491).f1) = (wrap64 (x13_11 + t492))
            ·rw [if_pos c51] at H
             have c51b0 : (((rd_T54 t482 t491).f1) == (wrap64 (x13_11 + t492))) = true := beq_iff_eq.mpr c51
             have c51b1 : (((rd_T54 t482 t491).f1) != (wrap64 (x13_11 + t492))) = false := bne_eq_false_iff_eq.mpr c51
             clear c51
             have H' := Aside0.mk H
             clear H
             have hnb52 := NB487_476.out
             have hnc52 := NB476_487.out
             have hnb53 := NB487_477.out
             have hnc53 := NB477_487.out
             have hcz54_0 := bc BK487 0
             have hcz54_1 := bc BK487 1
             have hcz54_2 := bc BK487 2
             have hfz54_0 := blk_frozen BK487.out 0
             have hfz54_1 := blk_frozen BK487.out 1
             have hfz54_2 := blk_frozen BK487.out 2
             have p494 : 0 ≤ (t491 : Int) := of_decide_eq_true (by first | (with_reducible assumption) | assumption)
             have q494 : t491 < (t482.length : Int) := of_decide_eq_true (by first | (with_reducible assumption) | assumption)
             obtain ⟨ad494, e494, hx494_0, hx494_1, hx494_2⟩ := at_T54 (Kd.R_reads' HO_488002.out).2.2 t491 p494 q494
             cases e494
             replace p494 := eq_true p494
             replace q494 := eq_true q494
             have p495 : 0 ≤ (t491 : Int) := of_decide_eq_true (by first | (with_reducible assumption) | assumption)
             have q495 : t491 < (t482.length : Int) := of_decide_eq_true (by first | (with_reducible assumption) | assumption)
             obtain ⟨ad495, e495, hx495_0, hx495_1, hx495_2⟩ := at_T54 (Kd.R_reads' HO_488002.out).2.2 t491 p495 q495
             obtain rfl : ad494 = ad495 := (by injection e495)
             replace p495 := eq_true p495
             replace q495 := eq_true q495
             have hnb55 := NB476_477.out
             have hnc55 := NB477_476.out
             have hcz56_0 := bc BK476 0
             have hcz56_1 := bc BK476 1
             have hcz56_2 := bc BK476 2
             have hfz56_0 := blk_frozen BK476.out 0
             have hfz56_1 := blk_frozen BK476.out 1
             have hfz56_2 := blk_frozen BK476.out 2
             go_wp2
             go_meet
             case rel => exact ⟨_, ((t481 != (wrap64 (a0_1 - t492)))), (by first | rfl | (simp; done) | (simp [*]; done)), H', ⟨by have := HJ11.out; first | omega | exact Nat.le_refl _⟩, ⟨rk HO_488002⟩, ⟨kb BK476⟩, ⟨kb BK477⟩, ⟨kb BK487⟩, ⟨lb3 HB GE476 GE477 GE487⟩⟩
            ·rw [if_neg c51] at H
             have c51b0 : (((rd_T54 t482 t491).f1) == (wrap64 (x13_11 + t492))) = false := beq_eq_false_iff_ne.mpr c51
             have c51b1 : (((rd_T54 t482 t491).f1) != (wrap64 (x13_11 + t492))) = true := bne_iff_ne.mpr c51
             have H' := Aside0.mk H
             clear H
             have hnb57 := NB487_476.out
             have hnc57 := NB476_487.out
             have hnb58 := NB487_477.out
             have hnc58 := NB477_487.out
             have hcz59_0 := bc BK487 0
             have hcz59_1 := bc BK487 1
             have hcz59_2 := bc BK487 2
             have hfz59_0 := blk_frozen BK487.out 0
             have hfz59_1 := blk_frozen BK487.out 1
             have hfz59_2 := blk_frozen BK487.out 2
             have p494 : 0 ≤ (t491 : Int) := of_decide_eq_true (by first | (with_reducible assumption) | assumption)
             have q494 : t491 < (t482.length : Int) := of_decide_eq_true (by first | (with_reducible assumption) | assumption)
             obtain ⟨ad494, e494, hx494_0, hx494_1, hx494_2⟩ := at_T54 (Kd.R_reads' HO_488002.out).2.2 t491 p494 q494
             cases e494
             replace p494 := eq_true p494
             replace q494 := eq_true q494
             have p495 : 0 ≤ (t491 : Int) := of_decide_eq_true (by first | (with_reducible assumption) | assumption)
             have q495 : t491 < (t482.length : Int) := of_decide_eq_true (by first | (with_reducible assumption) | assumption)
             obtain ⟨ad495, e495, hx495_0, hx495_1, hx495_2⟩ := at_T54 (Kd.R_reads' HO_488002.out).2.2 t491 p495 q495
             obtain rfl : ad494 = ad495 := (by injection e495)
             replace p495 := eq_true p495
             replace q495 := eq_true q495
             go_wp2
             go_meet
             case rel => exact ⟨_, (true), (by first | rfl | (simp; done) | (simp [*]; done)), H', ⟨by have := HJ11.out; first | omega | exact Nat.le_refl _⟩, ⟨rk HO_488002⟩, ⟨kb BK476⟩, ⟨kb BK477⟩, ⟨kb BK487⟩, ⟨lb3 HB GE476 GE477 GE487⟩⟩
           ·rw [if_neg c50] at H
            have c50b0 : (((rd_T54 t482 t491).f2) == t485) = false := beq_eq_false_iff_ne.mpr c50
            have c50b1 : (((rd_T54 t482 t491).f2) != t485) = true := bne_iff_ne.mpr c50
            have H' := Aside0.mk H
            clear H
            have hnb60 := NB487_476.out
            have hnc60 := NB476_487.out
            have hnb61 := NB487_477.out
            have hnc61 := NB477_487.out
            have hcz62_0 := bc BK487 0
            have hcz62_1 := bc BK487 1
            have hcz62_2 := bc BK487 2
            have hfz62_0 := blk_frozen BK487.out 0
            have hfz62_1 := blk_frozen BK487.out 1
            have hfz62_2 := blk_frozen BK487.out 2
            have p494 : 0 ≤ (t491 : Int) := of_decide_eq_true (by first | (with_reducible assumption) | assumption)
            have q494 : t491 < (t482.length : Int) := of_decide_eq_true (by first | (with_reducible assumption) | assumption)
            obtain ⟨ad494, e494, hx494_0, hx494_1, hx494_2⟩ := at_T54 (Kd.R_reads' HO_488002.out).2.2 t491 p494 q494
            cases e494
            replace p494 := eq_true p494
            replace q494 := eq_true q494
            go_wp2
            go_meet
            case rel => exact ⟨_, (true), (by first | rfl | (simp; done) | (simp [*]; done)), H', ⟨by have := HJ11.out; first | omega | exact Nat.le_refl _⟩, ⟨rk HO_488002⟩, ⟨kb BK476⟩, ⟨kb BK477⟩, ⟨kb BK487⟩, ⟨lb3 HB GE476 GE477 GE487⟩⟩
          ·rw [if_neg c49] at H
           exact absurd H (by simp)
         ·rw [if_neg c48] at H
          exact absurd H (by simp)
        ·rw [if_neg c47] at H
         have c47b0 : (t493 == 0) = false := beq_eq_false_iff_ne.mpr c47
         have c47b1 : (t493 != 0) = true := bne_iff_ne.mpr c47
         have H' := Aside0.mk H
         clear H
         go_wp2
         go_meet
         case rel => exact ⟨_, (true), (by first | rfl | (simp; done) | (simp [*]; done)), H', ⟨by have := HJ11.out; first | omega | exact Nat.le_refl _⟩, ⟨rk HO_488002⟩, ⟨kb BK476⟩, ⟨kb BK477⟩, ⟨kb BK487⟩, ⟨lb3 HB GE476 GE477 GE487⟩⟩
      case rest =>
       clear HC38
       try clear c1; try clear c2; try clear p2; try clear c3; try clear c4; try clear p4; try clear q4; try clear hx4; try clear c5; try clear c6; try clear p6; try clear c8; try clear c10; try clear c10b0; try clear c10b1; try clear c11; try clear c14; try clear c16; try clear c19; try clear c21; try clear c22; try clear c24; try clear c25; try clear c30; try clear c30b0; try clear c31; try clear c31b0; try clear c32; try clear c32b0; try clear c33; try clear c34; try clear c39; try clear c40; try clear c43; try clear c46; try clear c46b0; try clear c47; try clear c47b0; try clear c47b1; try clear c48; try clear c48b0; try clear p48; try clear q48; try clear hx48; try clear c49; try clear c49b0; try clear p49; try clear q49; try clear hx49; try clear c50; try clear c50b0; try clear c50b1; try clear c51; try clear c51b0; try clear c51b1; try clear c52; try clear c53; try clear c55; try clear c57; try clear c58; try clear c60; try clear c61; try clear hcz17_0; try clear hcz17_1; try clear hcz17_2; try clear hcz18_0; try clear hcz20_0; try clear hcz20_1; try clear hcz20_2; try clear hcz21_0; try clear hcz26_0; try clear hcz26_1; try clear hcz26_2; try clear hcz28_0; try clear hcz28_1; try clear hcz28_2; try clear hcz35_0; try clear hcz35_1; try clear hcz35_2; try clear hcz41_0; try clear hcz41_1; try clear hcz41_2; try clear hcz44_0; try clear hcz54_0; try clear hcz54_1; try clear hcz54_2; try clear hcz56_0; try clear hcz56_1; try clear hcz56_2; try clear hcz59_0; try clear hcz59_1; try clear hcz59_2; try clear hcz62_0; try clear hcz62_1; try clear hcz62_2; try clear hfz17_0; try clear hfz17_1; try clear hfz17_2; try clear hfz18_0; try clear hfz20_0; try clear hfz20_1; try clear hfz20_2; try clear hfz21_0; try clear hfz26_0; try clear hfz26_1; try clear hfz26_2; try clear hfz28_0; try clear hfz28_1; try clear hfz28_2; try clear hfz35_0; try clear hfz35_1; try clear hfz35_2; try clear hfz41_0; try clear hfz41_1; try clear hfz41_2; try clear hfz44_0; try clear hfz54_0; try clear hfz54_1; try clear hfz54_2; try clear hfz56_0; try clear hfz56_1; try clear hfz56_2; try clear hfz59_0; try clear hfz59_1; try clear hfz59_2; try clear hfz62_0; try clear hfz62_1; try clear hfz62_2; try clear hx489_0; try clear hx489_1; try clear hx489_2; try clear hx490_0; try clear hx490_1; try clear hx490_2; try clear hx494_0; try clear hx494_1; try clear hx494_2; try clear hx495_0; try clear hx495_1; try clear hx495_2; try clear p2; try clear p4; try clear p489; try clear p490; try clear p494; try clear p495; try clear q4; try clear q489; try clear q490; try clear q494; try clear q495
       obtain ⟨kq, x114_37, rfl, HA, HJ37, HO_488002, BK476, BK477, BK487, HB⟩ := hcut
       cases kq with
       | zero => exact absurd HA.out (by simp [crossbarlaw28_PrepaidReservationPaysAhead.j1])
       | succ kj37 =>
        have H := HA.out
        clear HA
        simp only [crossbarlaw28_PrepaidReservationPaysAhead.j1] at H
        by_cases c63 : x114_37 = true
        ·subst c63
         have H1 : (some false) = some r := by rw [if_pos rfl] at H; exact H
         clear H
         have H := H1
         clear H1
         exact absurd ((Option.some.inj H).trans HT_TRUE.out) (by simp)
        ·replace c63 := Bool.eq_false_iff.mpr c63
         subst c63
         have H1 : (if t485 ≤ a3 then (crossbarlaw28_PrepaidReservationPaysAhead.j2 kj37 t485 (mn (wrap64 ((mx x12_11 a3) + 30)) 1099511627776) true l1_0 t480 t481 t482) else (crossbarlaw28_PrepaidReservationPaysAhead.j2 kj37 t485 (mn (wrap64 ((mx x12_11 a3) + 30)) 1099511627776) (decide (t485 > (mn (wrap64 ((mx x12_11 a3) + 30)) 1099511627776))) l1_0 t480 t481 t482)) = some r := by rw [if_neg (show ¬ (false = true) by decide)] at H; exact H
         clear H
         have H := H1
         clear H1
         obtain ⟨ji64, hji64⟩ : ∃ j_ : Int, (mx x12_11 a3) = j_ := ⟨_, rfl⟩
         replace H : (if t485 ≤ a3 then (crossbarlaw28_PrepaidReservationPaysAhead.j2 kj37 t485 (mn (wrap64 ((ji64) + 30)) 1099511627776) true l1_0 t480 t481 t482) else (crossbarlaw28_PrepaidReservationPaysAhead.j2 kj37 t485 (mn (wrap64 ((ji64) + 30)) 1099511627776) (decide (t485 > (mn (wrap64 ((ji64) + 30)) 1099511627776))) l1_0 t480 t481 t482)) = some r := by first | (rw [hji64] at H; exact H) | (simp only [hji64] at H ⊢; exact H)
         have hji64_ : (if x12_11 < a3 then a3 else x12_11) = ji64 := hji64
         obtain ⟨ji65, hji65⟩ : ∃ j_ : Int, (mn (wrap64 ((ji64) + 30)) 1099511627776) = j_ := ⟨_, rfl⟩
         replace H : (if t485 ≤ a3 then (crossbarlaw28_PrepaidReservationPaysAhead.j2 kj37 t485 ji65 true l1_0 t480 t481 t482) else (crossbarlaw28_PrepaidReservationPaysAhead.j2 kj37 t485 ji65 (decide (t485 > (ji65))) l1_0 t480 t481 t482)) = some r := by first | (rw [hji65] at H; exact H) | (simp only [hji65] at H ⊢; exact H)
         have hji65_ : (if 1099511627776 < (wrap64 ((ji64) + 30)) then 1099511627776 else (wrap64 ((ji64) + 30))) = ji65 := hji65
         have HC66 := Aside0.mk H
         clear H
         go_upto_region 19 with (fail)
         go_cut [127] (fun v127 wc => ∃ (kq : Nat) (x127_65 : Bool), v127 = .bool x127_65 ∧ Aside0 (crossbarlaw28_PrepaidReservationPaysAhead.j2 kq t485 ji65 x127_65 l1_0 t480 t481 t482 = some r) ∧ Aside0 (kq ≤ kj37) ∧ Aside0 (Kd.R k54 54 wc w.heap.size (fun _ => True) (.slice Ao27 t482.length co27) t482) ∧ Aside0 (wc.heap[gb476]? = some (.cells #[.string a0_0, .int .i64 a0_1, (.slice A0_2 l0_2.length c0_2)] 31 (0, 0))) ∧ Aside0 (wc.heap[gb477]? = some (.cells #[(.slice A1_0 l1_0.length c1_0)] 24 (0, 0))) ∧ Aside0 (wc.heap[gb487]? = some (.cells #[.string t480, .int .i64 t481, (.slice Ao27 t482.length co27)] 31 (0, 0))) ∧ Aside0 (Below w.heap.size w wc))
         case first =>
          have H := HC66.out
          clear HC66
          by_cases c67 : t485 ≤ a3
          ·rw [if_pos c67] at H
           have c67b0 : decide (t485 ≤ a3) = true := decide_eq_true c67
           clear c67
           (first | rw [c67b0] | (simp only [i64_w, i32_w]; rw [c67b0]) | skip)
           have H' := Aside0.mk H
           clear H
           go_wp2
           go_meet
           case rel => exact ⟨_, (true), (by first | rfl | (simp; done) | (simp [*]; done)), H', ⟨by have := HJ11.out; have := HJ37.out; first | omega | exact Nat.le_refl _⟩, ⟨rk HO_488002⟩, ⟨kb BK476⟩, ⟨kb BK477⟩, ⟨kb BK487⟩, ⟨lb3 HB GE476 GE477 GE487⟩⟩
          ·rw [if_neg c67] at H
           have c67b0 : decide (t485 ≤ a3) = false := decide_eq_false c67
           clear c67
           (first | rw [c67b0] | (simp only [i64_w, i32_w]; rw [c67b0]) | skip)
           have H' := Aside0.mk H
           clear H
           go_wp2
           go_meet
           case rel => exact ⟨_, (decide (t485 > (ji65))), (by first | rfl | (simp; done) | (simp only [← hji65] <;> (first | rfl | simp)) | (simp [*]; done)), H', ⟨by have := HJ11.out; have := HJ37.out; first | omega | exact Nat.le_refl _⟩, ⟨rk HO_488002⟩, ⟨kb BK476⟩, ⟨kb BK477⟩, ⟨kb BK487⟩, ⟨lb3 HB GE476 GE477 GE487⟩⟩
         case rest =>
          clear HC66
          try clear c1; try clear c2; try clear p2; try clear c3; try clear c4; try clear p4; try clear q4; try clear hx4; try clear c5; try clear c6; try clear p6; try clear c8; try clear c10; try clear c10b0; try clear c10b1; try clear c11; try clear c14; try clear c16; try clear c19; try clear c21; try clear c22; try clear c24; try clear c25; try clear c30; try clear c30b0; try clear c31; try clear c31b0; try clear c32; try clear c32b0; try clear c33; try clear c34; try clear c39; try clear c40; try clear c43; try clear c46; try clear c46b0; try clear c47; try clear c47b0; try clear c47b1; try clear c48; try clear c48b0; try clear p48; try clear q48; try clear hx48; try clear c49; try clear c49b0; try clear p49; try clear q49; try clear hx49; try clear c50; try clear c50b0; try clear c50b1; try clear c51; try clear c51b0; try clear c51b1; try clear c52; try clear c53; try clear c55; try clear c57; try clear c58; try clear c60; try clear c61; try clear c63; try clear p64; try clear c67; try clear c67b0; try clear hcz17_0; try clear hcz17_1; try clear hcz17_2; try clear hcz18_0; try clear hcz20_0; try clear hcz20_1; try clear hcz20_2; try clear hcz21_0; try clear hcz26_0; try clear hcz26_1; try clear hcz26_2; try clear hcz28_0; try clear hcz28_1; try clear hcz28_2; try clear hcz35_0; try clear hcz35_1; try clear hcz35_2; try clear hcz41_0; try clear hcz41_1; try clear hcz41_2; try clear hcz44_0; try clear hcz54_0; try clear hcz54_1; try clear hcz54_2; try clear hcz56_0; try clear hcz56_1; try clear hcz56_2; try clear hcz59_0; try clear hcz59_1; try clear hcz59_2; try clear hcz62_0; try clear hcz62_1; try clear hcz62_2; try clear hfz17_0; try clear hfz17_1; try clear hfz17_2; try clear hfz18_0; try clear hfz20_0; try clear hfz20_1; try clear hfz20_2; try clear hfz21_0; try clear hfz26_0; try clear hfz26_1; try clear hfz26_2; try clear hfz28_0; try clear hfz28_1; try clear hfz28_2; try clear hfz35_0; try clear hfz35_1; try clear hfz35_2; try clear hfz41_0; try clear hfz41_1; try clear hfz41_2; try clear hfz44_0; try clear hfz54_0; try clear hfz54_1; try clear hfz54_2; try clear hfz56_0; try clear hfz56_1; try clear hfz56_2; try clear hfz59_0; try clear hfz59_1; try clear hfz59_2; try clear hfz62_0; try clear hfz62_1; try clear hfz62_2; try clear hx489_0; try clear hx489_1; try clear hx489_2; try clear hx490_0; try clear hx490_1; try clear hx490_2; try clear hx494_0; try clear hx494_1; try clear hx494_2; try clear hx495_0; try clear hx495_1; try clear hx495_2; try clear p2; try clear p4; try clear p48; try clear p489; try clear p49; try clear p490; try clear p494; try clear p495; try clear p6; try clear q4; try clear q48; try clear q489; try clear q49; try clear q490; try clear q494; try clear q495
          obtain ⟨kq, x127_65, rfl, HA, HJ65, HO_488002, BK476, BK477, BK487, HB⟩ := hcut
          cases kq with
          | zero => exact absurd HA.out (by simp [crossbarlaw28_PrepaidReservationPaysAhead.j2])
          | succ kj65 =>
           have H := HA.out
           clear HA
           simp only [crossbarlaw28_PrepaidReservationPaysAhead.j2] at H
           by_cases c68 : x127_65 = true
           ·subst c68
            have H1 : (some false) = some r := by rw [if_pos rfl] at H; exact H
            clear H
            have H := H1
            clear H1
            exact absurd ((Option.some.inj H).trans HT_TRUE.out) (by simp)
           ·replace c68 := Bool.eq_false_iff.mpr c68
            subst c68
            have H1 : (if t485 = ji65 then (some true) else ((tariff_Rate.f kj65 l1_0 t485).bind fun bt496 => (if bt496.2 = 0 then (some (decide (bt496.1 > t481))) else (some false)))) = some r := by rw [if_neg (show ¬ (false = true) by decide)] at H; exact H
            clear H
            have H := H1
            clear H1
            by_cases c69 : t485 = ji65
            ·rw [if_pos c69] at H
             have c69b0 : (t485 == ji65) = true := beq_iff_eq.mpr c69
             have c69b1 : (t485 != ji65) = false := bne_eq_false_iff_eq.mpr c69
             clear c69
             obtain rfl := Option.some.inj H
             go_wp2
             go_ret
             exact ⟨by first | rfl | (simp [errW_none, errW_some] <;> rfl) | (simp only [← hji64, ← hji65]; first | rfl | (simp [errW_none, errW_some] <;> rfl)) | (simp [*, errW_none, errW_some] <;> rfl), lb3 HB GE476 GE477 GE487⟩
            ·rw [if_neg c69] at H
             have c69b0 : (t485 == ji65) = false := beq_eq_false_iff_ne.mpr c69
             have c69b1 : (t485 != ji65) = true := bne_iff_ne.mpr c69
             replace H := Option.bind_eq_some_iff.mp H
             obtain ⟨⟨t496, t497⟩, A700, H⟩ := H
             replace H : (if t497 = 0 then (some (decide (t496 > t481))) else (some false)) = some r := H
             have A70 := Aside0.mk A700
             clear A700
             by_cases c71 : t497 = 0
             ·rw [if_pos c71] at H
              have c71b0 : (t497 == 0) = true := beq_iff_eq.mpr c71
              have c71b1 : (t497 != 0) = false := bne_eq_false_iff_eq.mpr c71
              clear c71
              obtain rfl := Option.some.inj H
              have hnb72 := NB477_476.out
              have hnc72 := NB476_477.out
              have hnb73 := NB477_487.out
              have hnc73 := NB487_477.out
              have hcz74_0 := bc BK477 0
              have hfz74_0 := blk_frozen BK477.out 0
              go_wp2_with (first | ((with_reducible refine gate_callee (f := 33) rfl ?_); refine goesL_ (some 134) rfl rfl Tryd.func33 (by kernel_rfl) rfl #[.agg #[.slice A1_0 l1_0.length c1_0], .int .i64 t485] rfl (by (try simp only [List.map_toArray, List.map_cons, List.map_nil]); first | done | rfl | (simp only [List.length_drop, List.length_take]; rfl)) ?_; (with_reducible refine (tariff_Rate.calls kj65 _ _ l1_0 t485 t496 t497 _ ?side1 ?side2 A70.out).mono ?_); (case side1 => repeat (first | exact (Kd.C_below HR1_0.out HB.out) | (with_reducible refine Kd.C_alloc ?_ _) | (with_reducible refine Kd.C_drewN ?_ _) | (with_reducible refine Kd.C_drew ?_))); (case side2 => exact HC1_0.out); rintro e w75 ⟨rfl, hb⟩; refine ⟨_, rfl, ?_⟩; have n0_ := Aside0.mk (Kd.R_below (rk HO_488002) hb); have n1_ := kl BK476 hb; have n2_ := kl BK477 hb; have n3_ := kl BK487 hb; have n4_ := ls3 HB GE476 GE477 GE487 hb; clear HO_488002; clear BK476; clear BK477; clear BK487; clear HB; have HO_488002 := n0_; have BK476 := n1_; have BK477 := n2_; have BK487 := n3_; have HB := n4_; clear n0_ n1_ n2_ n3_ n4_; (try clear hb); (try clear hb2); (try clear hk); (try clear hi); have hnb76 := NB487_476.out; have hnc76 := NB476_487.out; have hcz77_0 := bc BK487 0; have hcz77_1 := bc BK487 1; have hcz77_2 := bc BK487 2; have hfz77_0 := blk_frozen BK487.out 0; have hfz77_1 := blk_frozen BK487.out 1; have hfz77_2 := blk_frozen BK487.out 2))
              go_ret
              exact ⟨by first | rfl | (simp [errW_none, errW_some] <;> rfl) | (simp only [← hji64, ← hji65]; first | rfl | (simp [errW_none, errW_some] <;> rfl)) | (simp [*, errW_none, errW_some] <;> rfl), lb3 HB GE476 GE477 GE487⟩
             ·rw [if_neg c71] at H
              have c71b0 : (t497 == 0) = false := beq_eq_false_iff_ne.mpr c71
              have c71b1 : (t497 != 0) = true := bne_iff_ne.mpr c71
              exact absurd ((Option.some.inj H).trans HT_TRUE.out) (by simp)
   ·rw [if_neg c10] at H
    have c10b0 : (t486 == 0) = false := beq_eq_false_iff_ne.mpr c10
    have c10b1 : (t486 != 0) = true := bne_iff_ne.mpr c10
    by_cases c78 : t485 = 0
    ·rw [if_pos c78] at H
     have c78b0 : (t485 == 0) = true := beq_iff_eq.mpr c78
     have c78b1 : (t485 != 0) = false := bne_eq_false_iff_eq.mpr c78
     clear c78
     by_cases c79 : (t482.length : Int) = 0
     ·rw [if_pos c79] at H
      have c79b0 : ((t482.length : Int) == 0) = true := beq_iff_eq.mpr c79
      have c79b1 : ((t482.length : Int) != 0) = false := bne_eq_false_iff_eq.mpr c79
      clear c79
      obtain rfl := Option.some.inj H
      go_enter Tryd.func11, Tryd.ntmps11
      go_wp2_with (first | ((with_reducible refine gate_dst (N := 4) rfl ?_); (try (refine gate_guard (by rfl) ?_; dsimp only)); refine box_event ?hg (N := 4) ?hd (cs := #[.string a0_0, .int .i64 a0_1, .slice A0_2 l0_2.length c0_2]) (t := 31) ?hr ?_; (case hd => rfl); (case hg => rfl); (case hr => first | (go_simp; done) | (go_simp; rfl)); intro gb476 hg w80 hbox hb; have n0_ := ls0 HB hb; have n1_ := Aside0.mk (hbox); have n2_ := Aside0.mk ((by rw [hg]; exact (below_size (lb0 HB)) : w.heap.size ≤ gb476)); have n3_ := Aside0.mk ((by rw [hg]; exact (below_size (lb0 HB)) : w.heap.size ≤ gb476)); clear HB; have HB := n0_; have BK476 := n1_; have GW476 := n2_; have GE476 := n3_; clear n0_ n1_ n2_ n3_; clear hb hbox hg) | ((with_reducible refine gate_dst (N := 5) rfl ?_); (try (refine gate_guard (by rfl) ?_; dsimp only)); refine box_event ?hg (N := 5) ?hd (cs := #[.slice A1_0 l1_0.length c1_0]) (t := 24) ?hr ?_; (case hd => rfl); (case hg => rfl); (case hr => first | (go_simp; done) | (go_simp; rfl)); intro gb477 hg w81 hbox hb; have n0_ := kl BK476 hb; have n1_ := ls1 HB GE476 hb; have n2_ := Aside0.mk (hbox); have n3_ := Aside0.mk ((by rw [hg]; exact (below_size (lb1 HB GE476)) : w.heap.size ≤ gb477)); have n4_ := Aside0.mk ((by rw [hg]; exact (below_size (lb1 HB GE476)) : w.heap.size ≤ gb477)); have n5_ := kn BK476 hg; have n6_ := km BK476 hg; clear BK476; clear HB; have BK476 := n0_; have HB := n1_; have BK477 := n2_; have GW477 := n3_; have GE477 := n4_; have NB476_477 := n5_; have NB477_476 := n6_; clear n0_ n1_ n2_ n3_ n4_ n5_ n6_; clear hb hbox hg) | ((with_reducible refine gate_callee (f := 21) rfl ?_); refine goesL_ (some 20) rfl rfl Tryd.func21 (by kernel_rfl) rfl #[] rfl (by (try simp only [List.map_toArray, List.map_cons, List.map_nil]); first | done | rfl | (simp only [List.length_drop, List.length_take]; rfl)) ?_; (with_reducible refine (crossbarlaw28_sane.calls k  true _ A5.out).mono ?_); rintro e w82 ⟨rfl, hb⟩; refine ⟨_, rfl, ?_⟩; have n0_ := kl BK476 hb; have n1_ := kl BK477 hb; have n2_ := ls2 HB GE476 GE477 hb; clear BK476; clear BK477; clear HB; have BK476 := n0_; have BK477 := n1_; have HB := n2_; clear n0_ n1_ n2_; (try clear hb); (try clear hb2); (try clear hk); (try clear hi); have hnb83 := NB476_477.out; have hnc83 := NB477_476.out; have hcz84_0 := bc BK476 0; have hcz84_1 := bc BK476 1; have hcz84_2 := bc BK476 2; have hfz84_0 := blk_frozen BK476.out 0; have hfz84_1 := blk_frozen BK476.out 1; have hfz84_2 := blk_frozen BK476.out 2; have hcz85_0 := bc BK477 0; have hfz85_0 := blk_frozen BK477.out 0) | ((with_reducible refine gate_callee (f := 22) rfl ?_); refine goesL_ (some 24) rfl rfl Tryd.func22 (by kernel_rfl) rfl #[.agg #[.string a0_0, .int .i64 a0_1, .slice A0_2 l0_2.length c0_2], .agg #[.slice A1_0 l1_0.length c1_0]] rfl (by (try simp only [List.map_toArray, List.map_cons, List.map_nil]); first | done | rfl | (simp only [List.length_drop, List.length_take]; rfl)) ?_; (with_reducible refine (crossbarref28_Few.calls a0_0 a0_1 _ _ l0_2 _ _ l1_0 true _ ?side1 ?side2 ?side3 ?side4 A7.out).mono ?_); (case side1 => repeat (first | exact (Kd.C_below HR0_2.out HB.out) | (with_reducible refine Kd.C_alloc ?_ _) | (with_reducible refine Kd.C_drewN ?_ _) | (with_reducible refine Kd.C_drew ?_))); (case side2 => exact HC0_2.out); (case side3 => repeat (first | exact (Kd.C_below HR1_0.out HB.out) | (with_reducible refine Kd.C_alloc ?_ _) | (with_reducible refine Kd.C_drewN ?_ _) | (with_reducible refine Kd.C_drew ?_))); (case side4 => exact HC1_0.out); rintro e w86 ⟨rfl, hb⟩; refine ⟨_, rfl, ?_⟩; have n0_ := kl BK476 hb; have n1_ := kl BK477 hb; have n2_ := ls2 HB GE476 GE477 hb; clear BK476; clear BK477; clear HB; have BK476 := n0_; have BK477 := n1_; have HB := n2_; clear n0_ n1_ n2_; (try clear hb); (try clear hb2); (try clear hk); (try clear hi); have hcz87_0 := bc BK476 0; have hcz87_1 := bc BK476 1; have hcz87_2 := bc BK476 2; have hfz87_0 := blk_frozen BK476.out 0; have hfz87_1 := blk_frozen BK476.out 1; have hfz87_2 := blk_frozen BK476.out 2; have hcz88_0 := bc BK477 0; have hfz88_0 := blk_frozen BK477.out 0) | ((with_reducible refine gate_callee (f := 14) rfl ?_); refine goesL_ (some 31) rfl rfl Tryd.func14 (by kernel_rfl) rfl #[.agg #[.string a0_0, .int .i64 a0_1, .slice A0_2 l0_2.length c0_2], .agg #[.slice A1_0 l1_0.length c1_0], .int .i64 a2, .int .i64 a3] rfl (by (try simp only [List.map_toArray, List.map_cons, List.map_nil]); first | done | rfl | (simp only [List.length_drop, List.length_take]; rfl)) ?_; (with_reducible refine (prepaid_Reserve.calls a0_0 a0_1 _ _ l0_2 _ _ l1_0 a2 a3 t480 t481 t482 t485 t486 _ ?side1 ?side2 ?side3 ?side4 A9.out).mono ?_); (case side1 => repeat (first | exact (Kd.C_below HR0_2.out HB.out) | (with_reducible refine Kd.C_alloc ?_ _) | (with_reducible refine Kd.C_drewN ?_ _) | (with_reducible refine Kd.C_drew ?_))); (case side2 => exact HC0_2.out); (case side3 => repeat (first | exact (Kd.C_below HR1_0.out HB.out) | (with_reducible refine Kd.C_alloc ?_ _) | (with_reducible refine Kd.C_drewN ?_ _) | (with_reducible refine Kd.C_drew ?_))); (case side4 => exact HC1_0.out); rintro e w89 ⟨v483, rfl, ho0, hb⟩; refine ⟨_, rfl, ?_⟩; have n0_ := Aside0.mk (Kd.R_lower ho0 (below_size (lb2 HB GE476 GE477))); have n1_ := kl BK476 hb; have n2_ := kl BK477 hb; have n3_ := ls2 HB GE476 GE477 hb; clear BK476; clear BK477; clear HB; have HO484 := n0_; have BK476 := n1_; have BK477 := n2_; have HB := n3_; clear n0_ n1_ n2_ n3_; (try clear hb); (try clear hb2); (try clear hk); (try clear hi); (try clear ho0)) | ((with_reducible refine gate_dst (N := 9) rfl ?_); (try (refine gate_guard (by rfl) ?_; dsimp only)); refine box_event ?hg (N := 9) ?hd (cs := #[.string (⟨#[]⟩ : ByteArray), .int .i64 0, .slice none 0 0]) (t := 31) ?hr ?_; (case hd => rfl); (case hg => rfl); (case hr => first | (go_simp; done) | (go_simp; rfl)); intro gb487 hg w90 hbox hb; have n0_ := Aside0.mk (Kd.R_below (rk HO484) hb); have n1_ := kl BK476 hb; have n2_ := kl BK477 hb; have n3_ := ls2 HB GE476 GE477 hb; have n4_ := Aside0.mk (hbox); have n5_ := Aside0.mk ((by rw [hg]; exact (below_size (lb2 HB GE476 GE477)) : w.heap.size ≤ gb487)); have n6_ := Aside0.mk ((by rw [hg]; exact (below_size (lb2 HB GE476 GE477)) : w.heap.size ≤ gb487)); have n7_ := kn BK476 hg; have n8_ := km BK476 hg; have n9_ := kn BK477 hg; have n10_ := km BK477 hg; clear HO484; clear BK476; clear BK477; clear HB; have HO484 := n0_; have BK476 := n1_; have BK477 := n2_; have HB := n3_; have BK487 := n4_; have GW487 := n5_; have GE487 := n6_; have NB476_487 := n7_; have NB487_476 := n8_; have NB477_487 := n9_; have NB487_477 := n10_; clear n0_ n1_ n2_ n3_ n4_ n5_ n6_ n7_ n8_ n9_ n10_; clear hb hbox hg; have hnb91 := NB487_476.out; have hnc91 := NB476_487.out; have hnb92 := NB487_477.out; have hnc92 := NB477_487.out; have hcz93_0 := bc BK487 0; have hcz93_1 := bc BK487 1; have hcz93_2 := bc BK487 2; have hfz93_0 := blk_frozen BK487.out 0; have hfz93_1 := blk_frozen BK487.out 1; have hfz93_2 := blk_frozen BK487.out 2; obtain ⟨Ao94, co94, eo94⟩ := Kd.R_slice HO484.out; subst eo94))
      go_ret
      exact ⟨by first | rfl | (simp [errW_none, errW_some] <;> rfl) | (simp [*, errW_none, errW_some] <;> rfl), lb3 HB GE476 GE477 GE487⟩
     ·rw [if_neg c79] at H
      have c79b0 : ((t482.length : Int) == 0) = false := beq_eq_false_iff_ne.mpr c79
      have c79b1 : ((t482.length : Int) != 0) = true := bne_iff_ne.mpr c79
      have c79b2 : ¬ (t482 = []) := fun h_ => c79 (by rw [h_]; rfl)
      exact absurd ((Option.some.inj H).trans HT_TRUE.out) (by simp)
    ·rw [if_neg c78] at H
     have c78b0 : (t485 == 0) = false := beq_eq_false_iff_ne.mpr c78
     have c78b1 : (t485 != 0) = true := bne_iff_ne.mpr c78
     exact absurd ((Option.some.inj H).trans HT_TRUE.out) (by simp)
  ·replace c8 := Bool.eq_false_iff.mpr c8
   subst c8
   have H1 : (some true) = some r := by rw [if_neg (show ¬ (false = true) by decide)] at H; exact H
   clear H
   have H := H1
   clear H1
   obtain rfl := Option.some.inj H
   go_enter Tryd.func11, Tryd.ntmps11
   go_wp2_with (first | ((with_reducible refine gate_dst (N := 4) rfl ?_); (try (refine gate_guard (by rfl) ?_; dsimp only)); refine box_event ?hg (N := 4) ?hd (cs := #[.string a0_0, .int .i64 a0_1, .slice A0_2 l0_2.length c0_2]) (t := 31) ?hr ?_; (case hd => rfl); (case hg => rfl); (case hr => first | (go_simp; done) | (go_simp; rfl)); intro gb476 hg w95 hbox hb; have n0_ := ls0 HB hb; have n1_ := Aside0.mk (hbox); have n2_ := Aside0.mk ((by rw [hg]; exact (below_size (lb0 HB)) : w.heap.size ≤ gb476)); have n3_ := Aside0.mk ((by rw [hg]; exact (below_size (lb0 HB)) : w.heap.size ≤ gb476)); clear HB; have HB := n0_; have BK476 := n1_; have GW476 := n2_; have GE476 := n3_; clear n0_ n1_ n2_ n3_; clear hb hbox hg) | ((with_reducible refine gate_dst (N := 5) rfl ?_); (try (refine gate_guard (by rfl) ?_; dsimp only)); refine box_event ?hg (N := 5) ?hd (cs := #[.slice A1_0 l1_0.length c1_0]) (t := 24) ?hr ?_; (case hd => rfl); (case hg => rfl); (case hr => first | (go_simp; done) | (go_simp; rfl)); intro gb477 hg w96 hbox hb; have n0_ := kl BK476 hb; have n1_ := ls1 HB GE476 hb; have n2_ := Aside0.mk (hbox); have n3_ := Aside0.mk ((by rw [hg]; exact (below_size (lb1 HB GE476)) : w.heap.size ≤ gb477)); have n4_ := Aside0.mk ((by rw [hg]; exact (below_size (lb1 HB GE476)) : w.heap.size ≤ gb477)); have n5_ := kn BK476 hg; have n6_ := km BK476 hg; clear BK476; clear HB; have BK476 := n0_; have HB := n1_; have BK477 := n2_; have GW477 := n3_; have GE477 := n4_; have NB476_477 := n5_; have NB477_476 := n6_; clear n0_ n1_ n2_ n3_ n4_ n5_ n6_; clear hb hbox hg) | ((with_reducible refine gate_callee (f := 21) rfl ?_); refine goesL_ (some 20) rfl rfl Tryd.func21 (by kernel_rfl) rfl #[] rfl (by (try simp only [List.map_toArray, List.map_cons, List.map_nil]); first | done | rfl | (simp only [List.length_drop, List.length_take]; rfl)) ?_; (with_reducible refine (crossbarlaw28_sane.calls k  true _ A5.out).mono ?_); rintro e w97 ⟨rfl, hb⟩; refine ⟨_, rfl, ?_⟩; have n0_ := kl BK476 hb; have n1_ := kl BK477 hb; have n2_ := ls2 HB GE476 GE477 hb; clear BK476; clear BK477; clear HB; have BK476 := n0_; have BK477 := n1_; have HB := n2_; clear n0_ n1_ n2_; (try clear hb); (try clear hb2); (try clear hk); (try clear hi); have hnb98 := NB476_477.out; have hnc98 := NB477_476.out; have hcz99_0 := bc BK476 0; have hcz99_1 := bc BK476 1; have hcz99_2 := bc BK476 2; have hfz99_0 := blk_frozen BK476.out 0; have hfz99_1 := blk_frozen BK476.out 1; have hfz99_2 := blk_frozen BK476.out 2; have hcz100_0 := bc BK477 0; have hfz100_0 := blk_frozen BK477.out 0) | ((with_reducible refine gate_callee (f := 22) rfl ?_); refine goesL_ (some 24) rfl rfl Tryd.func22 (by kernel_rfl) rfl #[.agg #[.string a0_0, .int .i64 a0_1, .slice A0_2 l0_2.length c0_2], .agg #[.slice A1_0 l1_0.length c1_0]] rfl (by (try simp only [List.map_toArray, List.map_cons, List.map_nil]); first | done | rfl | (simp only [List.length_drop, List.length_take]; rfl)) ?_; (with_reducible refine (crossbarref28_Few.calls a0_0 a0_1 _ _ l0_2 _ _ l1_0 false _ ?side1 ?side2 ?side3 ?side4 A7.out).mono ?_); (case side1 => repeat (first | exact (Kd.C_below HR0_2.out HB.out) | (with_reducible refine Kd.C_alloc ?_ _) | (with_reducible refine Kd.C_drewN ?_ _) | (with_reducible refine Kd.C_drew ?_))); (case side2 => exact HC0_2.out); (case side3 => repeat (first | exact (Kd.C_below HR1_0.out HB.out) | (with_reducible refine Kd.C_alloc ?_ _) | (with_reducible refine Kd.C_drewN ?_ _) | (with_reducible refine Kd.C_drew ?_))); (case side4 => exact HC1_0.out); rintro e w101 ⟨rfl, hb⟩; refine ⟨_, rfl, ?_⟩; have n0_ := kl BK476 hb; have n1_ := kl BK477 hb; have n2_ := ls2 HB GE476 GE477 hb; clear BK476; clear BK477; clear HB; have BK476 := n0_; have BK477 := n1_; have HB := n2_; clear n0_ n1_ n2_; (try clear hb); (try clear hb2); (try clear hk); (try clear hi)))
   go_ret
   exact ⟨by first | rfl | (simp [errW_none, errW_some] <;> rfl) | (simp [*, errW_none, errW_some] <;> rfl), lb2 HB GE476 GE477⟩
 ·replace c6 := Bool.eq_false_iff.mpr c6
  subst c6
  have H1 : (some false) = some r := by rw [if_neg (show ¬ (false = true) by decide)] at H; exact H
  clear H
  have H := H1
  clear H1
  exact absurd ((Option.some.inj H).trans HT_TRUE.out) (by simp)

end Go.Proofs.YtldpacphackdjaaDoor.Print
/- That the printed law PrepaidReservationPaysAhead answers true at every account, tariff, call and time. No condition that the law itself does not guard. -/
namespace Go.Proofs.YtldpacphackdjaaDoor.Print
open Go.RowKit Go.Proofs.YtldpacphackdjaaDoorW.PrintWords Go.Proofs.YtldpacphackdjaaDoorW.PrintLast Go.Proofs.YtldpacphackdjaaDoorW.PrintMore
set_option linter.unusedVariables false
theorem limEnd (now st : Int) : st + limOf now st = mn (mx st now + 30) 1099511627776 := by
  unfold limOf mn mx
  split <;> split <;> split <;> (try split) <;> omega
theorem aheadJ2 {tl : List S70} (hg : good tl = true) (b now st u e : Int) (s : ByteArray) (l : List S54) (h1 : 0 ≤ now) (h2 : now ≤ 1099511627776) (h3 : 0 ≤ st) (h4 : st ≤ 1099511627776) (hb : 0 ≤ b) (hu : u = st + lasts tl b now st) (he : e = st + limOf now st) (k : Nat) (hk : 100 ≤ k) :
    crossbarlaw28_PrepaidReservationPaysAhead.j2 k u e (decide (u > e)) tl s (b - (totalP tl u - totalP tl st)) l = some true := by
  obtain ⟨k, rfl⟩ : ∃ i, k = i + 1 := ⟨k - 1, by omega⟩
  have hl := limOf_bd now st h1 h2 h3 h4
  have hle := affN_le tl st b (limOf now st).toNat
  have hls : lasts tl b now st = (affN tl st b (limOf now st).toNat : Int) := rfl
  simp only [crossbarlaw28_PrepaidReservationPaysAhead.j2]
  rw [if_neg (by simp; omega)]
  by_cases h : u = e
  · rw [if_pos h]
  · rw [if_neg h, rate_ok hg u (by omega) (by omega) k (by omega), Option.bind_some]
    simp only
    rw [if_pos trivial]
    have hm := affN_max hg st b h3 (limOf now st).toNat (by omega)
    rw [show st + (affN tl st b (limOf now st).toNat : Int) + 1 = u + 1 by omega, totalP_succ hg u (by omega)] at hm
    rw [decide_eq_true (by omega)]
theorem aheadJ0 {s : ByteArray} {b : Int} {l : List S54} {tl : List S70} {ref now : Int} (h : ROk s b l tl ref now) (k : Nat) (hk : 2000 ≤ k) :
    crossbarlaw28_PrepaidReservationPaysAhead.j0 k ref now (stH ref now l + secs b l tl ref now) (stH ref now l) (unH ref now l) s b l tl s (b - cost b l tl ref now) (putH b l tl ref now) = some true := by
  obtain ⟨k, rfl⟩ : ∃ i, k = i + 2 := ⟨k - 2, by omega⟩
  have hs := st_bd (ref := ref) h.acc h.now1 h.now2
  have hc := cost_bd (ref := ref) h.acc h.hg h.now1 h.now2
  have hb := h.acc.bal
  have hlate := h.late
  have hlen := (put_len h).1
  have hpl := put_lt b l tl ref now
  have hn1 := h.now1
  have hn2 := h.now2
  have hrd := rd_put_place b l tl ref now
  simp only [crossbarlaw28_PrepaidReservationPaysAhead.j0]
  rw [find_sorted (put_from h) (by omega) ref s (b - cost b l tl ref now) (k + 1) (by omega), Option.bind_some, if_pos (put_found h).1, (put_found h).2, price_ok h.hg (stH ref now l) (stH ref now l + secs b l tl ref now) hs.1 (by omega) hc.2.1 (k + 1) (by omega), Option.bind_some]
  rw [show totalP tl (stH ref now l + secs b l tl ref now) - totalP tl (stH ref now l) = cost b l tl ref now from rfl, hrd]
  simp only
  rw [if_neg (by omega), if_pos trivial, if_pos (by omega), if_pos (by omega), if_pos trivial, if_pos (by unfold wrap64; omega)]
  simp only [crossbarlaw28_PrepaidReservationPaysAhead.j1]
  rw [if_neg (by rw [show wrap64 (b - cost b l tl ref now) = b - cost b l tl ref now by unfold wrap64; omega]; simp), if_neg (by omega)]
  have hmx : 0 ≤ mx (stH ref now l) now ∧ mx (stH ref now l) now ≤ 1099511627776 := by unfold mx; split <;> omega
  rw [show wrap64 (mx (stH ref now l) now + 30) = mx (stH ref now l) now + 30 by unfold wrap64; omega, ← limEnd]
  exact aheadJ2 h.hg b now (stH ref now l) _ _ s _ hn1 hn2 hs.1 hs.2.1 hb.1 rfl rfl k (by omega)
theorem PrepaidReservationPaysAhead_pure (s : ByteArray) (b : Int) (l : List S54) (tl : List S70) (ref now : Int) (hs : s.size ≤ maxLen) (hb : Rng b) (hn : l.length ≤ 9223372036854775807) (hw : ∀ x ∈ l, Rng x.f0 ∧ Rng x.f1 ∧ Rng x.f2) (hn1 : tl.length ≤ 9223372036854775807) (hw1 : ∀ x ∈ tl, Rng x.f0 ∧ Rng x.f1) (w1 : (Lit.int .i64 ref).wf = true) (w2 : (Lit.int .i64 now).wf = true) : ∃ k, crossbarlaw28_PrepaidReservationPaysAhead.f k s b l tl ref now = some true := by
  refine ⟨3000, ?_⟩
  unfold crossbarlaw28_PrepaidReservationPaysAhead.f
  rw [sane28_is 3000 (by omega), Option.bind_some, if_pos rfl, few28_is, Option.bind_some]
  by_cases hf : l.length ≤ 1100 ∧ s.size ≤ 100 ∧ tl.length ≤ 100
  · rw [if_pos (decide_eq_true hf)]
    by_cases hok : ROk s b l tl ref now
    · rw [reserve_ok hok]
      simp only [Option.bind_some]
      rw [if_pos trivial]
      have hfi := find_sorted hok.acc.holds (by omega) ref s b 3000 (by omega)
      have hj := aheadJ0 hok 3000 (by omega)
      cases hfo : foundH ref l with
      | true =>
        have hi := found_lt hfo
        rw [if_pos hfo] at hfi
        rw [hfi, Option.bind_some, if_pos (by omega), if_pos (by omega), if_pos (by omega)]
        have e := (at_found (now := now) hfo).2
        rw [show stH ref now l = (atH ref now l).f2 from rfl, show unH ref now l = (atH ref now l).f1 from rfl, e] at hj
        rw [show stH ref now l = (atH ref now l).f2 from rfl, e]
        exact hj
      | false =>
        rw [if_neg (by rw [hfo]; simp)] at hfi
        rw [hfi, Option.bind_some, if_neg (by omega)]
        have e := (at_new (now := now) hfo).2
        rw [show stH ref now l = (atH ref now l).f2 from rfl, show unH ref now l = (atH ref now l).f1 from rfl, e] at hj
        rw [show stH ref now l = (atH ref now l).f2 from rfl, e]
        exact hj
    · obtain ⟨e, he, hne⟩ := reserve_err hok
      rw [he]
      simp only [Option.bind_some]
      rw [if_neg hne]
      rfl
  · rw [if_neg (by simpa using hf)]
end Go.Proofs.YtldpacphackdjaaDoor.Print
