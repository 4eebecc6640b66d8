/- Parts of the proofs of layer 28's laws, joined in one file by a program of the session; each part begins with its own sentence. -/
import Derived.Test.YtldpacphackdjaaDoorZaSq
import Derived.Test.YtldpacphackdjaaDoorZa3
import Derived.Test.YtldpacphackdjaaDoorZa5
import Derived.Test.YtldpacphackdjaaDoorZaK0
import Derived.Test.YtldpacphackdjaaDoorZa4
import Derived.Test.YtldpacphackdjaaDoorZaF21
import Derived.Test.YtldpacphackdjaaDoorZa6
/- That the call of function 10 (crossbarlaw28_PrepaidDeposits) answers what the Lean function of the same name answers, at every input at which that one answers. (Written by a program of the session, which drives the kit's printer.) -/
namespace Go.Proofs.YtldpacphackdjaaDoor.Print
open Go.RowKit Go.Proofs.YtldpacphackdjaaDoorW.PrintWords Go.Proofs.YtldpacphackdjaaDoorW.PrintLast Go.Proofs.YtldpacphackdjaaDoorW.PrintMore
attribute [local go_sem] max2_int min2_int max_two min_two max_three min_three max_four min_four   -- for this text's walks alone
set_option linter.unusedVariables false
set_option linter.unusedSimpArgs false

/-! ### crossbarlaw28_PrepaidDeposits: function 10 -/
mutual
def crossbarlaw28_PrepaidDeposits.j0 : Nat → Int → Int → Int → Int → Int → Int → Bool → ByteArray → Int → List (S54) → List (S70) → ByteArray → Int → List (S54) → Option (Bool)
 | 0, _, _, _, _, _, _, _, _, _, _, _, _, _, _ => none
 | k + 1, x2, x3, x4, x5, x14, x16, x52, x426000, x426001, x426002, x427000, x443000, x443001, x443002 => if x52 = true then (if x14 = 0 then (if x16 = 1 then (some true) else (some (x16 == 2))) else (some true)) else ((prepaid_Deposit.f x426000 x426001 x426002 (wrap64 (x4 + x5))).bind fun bt443 => (if (wrap64 (x4 + x5)) ≤ 1099511627776 then (if bt443.2.2.2 = 0 then ((crossbarref28_Same.f k x443000 x443001 x443002 bt443.1 bt443.2.1 bt443.2.2.1).bind fun t450 => (crossbarlaw28_PrepaidDeposits.j1 k x2 x3 (!t450) x426000 x426001 x426002 x427000 x443000 x443001 x443002)) else (crossbarlaw28_PrepaidDeposits.j1 k x2 x3 true x426000 x426001 x426002 x427000 x443000 x443001 x443002)) else (crossbarlaw28_PrepaidDeposits.j1 k x2 x3 false x426000 x426001 x426002 x427000 x443000 x443001 x443002)))
def crossbarlaw28_PrepaidDeposits.j1 : Nat → Int → Int → Bool → ByteArray → Int → List (S54) → List (S70) → ByteArray → Int → List (S54) → Option (Bool)
 | 0, _, _, _, _, _, _, _, _, _, _ => none
 | k + 1, x2, x3, x84, x426000, x426001, x426002, x427000, x443000, x443001, x443002 => if x84 = true then (some false) else ((prepaid_Reserve.f x426000 x426001 x426002 x427000 x2 x3).bind fun bt451 => (if bt451.2.2.2.2 = 280 then (crossbarlaw28_PrepaidDeposits.j2 k x2 x3 (decide (x3 ≥ 1099511627776)) x426000 x426001 x426002 x427000 x443000 x443001 x443002) else (crossbarlaw28_PrepaidDeposits.j2 k x2 x3 true x426000 x426001 x426002 x427000 x443000 x443001 x443002)))
def crossbarlaw28_PrepaidDeposits.j2 : Nat → Int → Int → Bool → ByteArray → Int → List (S54) → List (S70) → ByteArray → Int → List (S54) → Option (Bool)
 | 0, _, _, _, _, _, _, _, _, _, _ => none
 | k + 1, x2, x3, x99, x426000, x426001, x426002, x427000, x443000, x443001, x443002 => if x99 = true then (some true) else ((crossbarref28_Find.f k x426000 x426001 x426002 x2).bind fun t459 => (if t459 ≥ 0 then (if 0 ≤ t459 then (if t459 < (x426002.length : Int) then (crossbarlaw28_PrepaidDeposits.j3 k x2 x3 ((rd_T54 x426002 t459).f2) x427000 x443000 x443001 x443002) else (none)) else (none)) else (crossbarlaw28_PrepaidDeposits.j3 k x2 x3 x3 x427000 x443000 x443001 x443002)))
def crossbarlaw28_PrepaidDeposits.j3 : Nat → Int → Int → Int → List (S70) → ByteArray → Int → List (S54) → Option (Bool)
 | 0, _, _, _, _, _, _, _ => none
 | k + 1, x2, x3, x22, x427000, x443000, x443001, x443002 => (tariff_Price.f k x427000 x22 (wrap64 ((mx x22 x3) + 1))).bind fun bt461 => (if x22 ≥ 1099511627776 then (some true) else (if bt461.2 = 0 then ((prepaid_Reserve.f x443000 x443001 x443002 x427000 x2 x3).bind fun bt463 => (some ((bt463.2.2.2.2 == 0) == (decide (x443001 ≥ bt461.1))))) else (some true)))
end
def crossbarlaw28_PrepaidDeposits.f (k : Nat) (a0_0 : ByteArray) (a0_1 : Int) (l0_2 : List (S54)) (l1_0 : List (S70)) (a2 : Int) (a3 : Int) (a4 : Int) (a5 : Int) : Option (Bool) := (crossbarlaw28_sane.f k).bind fun t427 => (if t427 = true then ((crossbarref28_Few.f a0_0 a0_1 l0_2 l1_0).bind fun t428 => (if t428 = true then ((prepaid_Deposit.f a0_0 a0_1 l0_2 a4).bind fun bt429 => ((prepaid_Deposit.f bt429.1 bt429.2.1 bt429.2.2.1 a5).bind fun bt436 => (if bt429.2.2.2 = 0 then (crossbarlaw28_PrepaidDeposits.j0 k a2 a3 a4 a5 bt429.2.2.2 bt436.2.2.2 (bt436.2.2.2 != 0) a0_0 a0_1 l0_2 l1_0 bt436.1 bt436.2.1 bt436.2.2.1) else (crossbarlaw28_PrepaidDeposits.j0 k a2 a3 a4 a5 bt429.2.2.2 bt436.2.2.2 true a0_0 a0_1 l0_2 l1_0 bt436.1 bt436.2.1 bt436.2.2.1)))) else (some true))) else (some false))
set_option maxHeartbeats 8000000 in
set_option maxRecDepth 100000 in
theorem crossbarlaw28_PrepaidDeposits.calls (k : Nat) (a0_0 : ByteArray) (a0_1 : Int) (A0_2 : Option Addr) (c0_2 : Nat) (l0_2 : List (S54)) (A1_0 : Option Addr) (c1_0 : Nat) (l1_0 : List (S70)) (a2 : Int) (a3 : Int) (a4 : Int) (a5 : Int) (r : Bool) (w : World) (hr0_2 : Kd.C k54 w A0_2 l0_2.length l0_2) (hc0_2 : l0_2.length ≤ c0_2) (hr1_0 : Kd.C k70 w A1_0 l1_0.length l1_0) (hc1_0 : l1_0.length ≤ c1_0) (h : crossbarlaw28_PrepaidDeposits.f k a0_0 a0_1 l0_2 l1_0 a2 a3 a4 a5 = some r) (hT : r = true := by rfl) :
  Calls Tryd.prog 10 #[.agg #[.string a0_0, .int .i64 a0_1, .slice A0_2 l0_2.length c0_2], .agg #[.slice A1_0 l1_0.length c1_0], .int .i64 a2, .int .i64 a3, .int .i64 a4, .int .i64 a5] w fun e w' => e = .returned (.bool r) ∧ Below w.heap.size w w' := by
 have HT_TRUE := Aside0.mk hT
 clear hT
 have hu31 := Tryd.underlying31
 have hu24 := Tryd.underlying24
 have HR0_2 := Aside0.mk hr0_2
 have HC0_2 := Aside0.mk hc0_2
 clear hr0_2 hc0_2
 have HR1_0 := Aside0.mk hr1_0
 have HC1_0 := Aside0.mk hc1_0
 clear hr1_0 hc1_0
 have HB := Aside0.mk (Below.refl w.heap.size w)
 have H : ((crossbarlaw28_sane.f k).bind fun t427 => (if t427 = true then ((crossbarref28_Few.f a0_0 a0_1 l0_2 l1_0).bind fun t428 => (if t428 = true then ((prepaid_Deposit.f a0_0 a0_1 l0_2 a4).bind fun bt429 => ((prepaid_Deposit.f bt429.1 bt429.2.1 bt429.2.2.1 a5).bind fun bt436 => (if bt429.2.2.2 = 0 then (crossbarlaw28_PrepaidDeposits.j0 k a2 a3 a4 a5 bt429.2.2.2 bt436.2.2.2 (bt436.2.2.2 != 0) a0_0 a0_1 l0_2 l1_0 bt436.1 bt436.2.1 bt436.2.2.1) else (crossbarlaw28_PrepaidDeposits.j0 k a2 a3 a4 a5 bt429.2.2.2 bt436.2.2.2 true a0_0 a0_1 l0_2 l1_0 bt436.1 bt436.2.1 bt436.2.2.1)))) else (some true))) else (some false))) = some r := h
 clear h
 replace H := Option.bind_eq_some_iff.mp H
 obtain ⟨t427, A70, H⟩ := H
 replace H : (if t427 = true then ((crossbarref28_Few.f a0_0 a0_1 l0_2 l1_0).bind fun t428 => (if t428 = true then ((prepaid_Deposit.f a0_0 a0_1 l0_2 a4).bind fun bt429 => ((prepaid_Deposit.f bt429.1 bt429.2.1 bt429.2.2.1 a5).bind fun bt436 => (if bt429.2.2.2 = 0 then (crossbarlaw28_PrepaidDeposits.j0 k a2 a3 a4 a5 bt429.2.2.2 bt436.2.2.2 (bt436.2.2.2 != 0) a0_0 a0_1 l0_2 l1_0 bt436.1 bt436.2.1 bt436.2.2.1) else (crossbarlaw28_PrepaidDeposits.j0 k a2 a3 a4 a5 bt429.2.2.2 bt436.2.2.2 true a0_0 a0_1 l0_2 l1_0 bt436.1 bt436.2.1 bt436.2.2.1)))) else (some true))) else (some false)) = some r := H
 have A7 := Aside0.mk A70
 clear A70
 by_cases c8 : t427 = true
 ·subst c8
  have H1 : ((crossbarref28_Few.f a0_0 a0_1 l0_2 l1_0).bind fun t428 => (if t428 = true then ((prepaid_Deposit.f a0_0 a0_1 l0_2 a4).bind fun bt429 => ((prepaid_Deposit.f bt429.1 bt429.2.1 bt429.2.2.1 a5).bind fun bt436 => (if bt429.2.2.2 = 0 then (crossbarlaw28_PrepaidDeposits.j0 k a2 a3 a4 a5 bt429.2.2.2 bt436.2.2.2 (bt436.2.2.2 != 0) a0_0 a0_1 l0_2 l1_0 bt436.1 bt436.2.1 bt436.2.2.1) else (crossbarlaw28_PrepaidDeposits.j0 k a2 a3 a4 a5 bt429.2.2.2 bt436.2.2.2 true a0_0 a0_1 l0_2 l1_0 bt436.1 bt436.2.1 bt436.2.2.1)))) else (some true))) = some r := by rw [if_pos rfl] at H; exact H
  clear H
  have H := H1
  clear H1
  replace H := Option.bind_eq_some_iff.mp H
  obtain ⟨t428, A90, H⟩ := H
  replace H : (if t428 = true then ((prepaid_Deposit.f a0_0 a0_1 l0_2 a4).bind fun bt429 => ((prepaid_Deposit.f bt429.1 bt429.2.1 bt429.2.2.1 a5).bind fun bt436 => (if bt429.2.2.2 = 0 then (crossbarlaw28_PrepaidDeposits.j0 k a2 a3 a4 a5 bt429.2.2.2 bt436.2.2.2 (bt436.2.2.2 != 0) a0_0 a0_1 l0_2 l1_0 bt436.1 bt436.2.1 bt436.2.2.1) else (crossbarlaw28_PrepaidDeposits.j0 k a2 a3 a4 a5 bt429.2.2.2 bt436.2.2.2 true a0_0 a0_1 l0_2 l1_0 bt436.1 bt436.2.1 bt436.2.2.1)))) else (some true)) = some r := H
  have A9 := Aside0.mk A90
  clear A90
  by_cases c10 : t428 = true
  ·subst c10
   have H1 : ((prepaid_Deposit.f a0_0 a0_1 l0_2 a4).bind fun bt429 => ((prepaid_Deposit.f bt429.1 bt429.2.1 bt429.2.2.1 a5).bind fun bt436 => (if bt429.2.2.2 = 0 then (crossbarlaw28_PrepaidDeposits.j0 k a2 a3 a4 a5 bt429.2.2.2 bt436.2.2.2 (bt436.2.2.2 != 0) a0_0 a0_1 l0_2 l1_0 bt436.1 bt436.2.1 bt436.2.2.1) else (crossbarlaw28_PrepaidDeposits.j0 k a2 a3 a4 a5 bt429.2.2.2 bt436.2.2.2 true a0_0 a0_1 l0_2 l1_0 bt436.1 bt436.2.1 bt436.2.2.1)))) = some r := by rw [if_pos rfl] at H; exact H
   clear H
   have H := H1
   clear H1
   replace H := Option.bind_eq_some_iff.mp H
   obtain ⟨⟨t429, t430, t431, t434⟩, A110, H⟩ := H
   replace H : ((prepaid_Deposit.f t429 t430 t431 a5).bind fun bt436 => (if t434 = 0 then (crossbarlaw28_PrepaidDeposits.j0 k a2 a3 a4 a5 t434 bt436.2.2.2 (bt436.2.2.2 != 0) a0_0 a0_1 l0_2 l1_0 bt436.1 bt436.2.1 bt436.2.2.1) else (crossbarlaw28_PrepaidDeposits.j0 k a2 a3 a4 a5 t434 bt436.2.2.2 true a0_0 a0_1 l0_2 l1_0 bt436.1 bt436.2.1 bt436.2.2.1))) = some r := H
   have A11 := Aside0.mk A110
   clear A110
   replace H := Option.bind_eq_some_iff.mp H
   obtain ⟨⟨t436, t437, t438, t441⟩, A120, H⟩ := H
   replace H : (if t434 = 0 then (crossbarlaw28_PrepaidDeposits.j0 k a2 a3 a4 a5 t434 t441 (t441 != 0) a0_0 a0_1 l0_2 l1_0 t436 t437 t438) else (crossbarlaw28_PrepaidDeposits.j0 k a2 a3 a4 a5 t434 t441 true a0_0 a0_1 l0_2 l1_0 t436 t437 t438)) = some r := H
   have A12 := Aside0.mk A120
   clear A120
   have HC13 := Aside0.mk H
   clear H
   go_enter Tryd.func10, Tryd.ntmps10
   go_upto_region 7 with (first | ((with_reducible refine gate_dst (N := 6) rfl ?_); refine box_event ?hg (N := 6) ?hd (cs := #[.string a0_0, .int .i64 a0_1, .slice A0_2 l0_2.length c0_2]) (t := 31) ?hr ?_; (case hd => rfl); (case hg => rfl); (case hr => first | (go_simp; done) | (go_simp; rfl)); intro gb425 hg w14 hbox hb; have n0_ := ls0 HB hb; have n1_ := Aside0.mk (hbox); have n2_ := Aside0.mk ((by rw [hg]; exact (below_size (lb0 HB)) : w.heap.size ≤ gb425)); have n3_ := Aside0.mk ((by rw [hg]; exact (below_size (lb0 HB)) : w.heap.size ≤ gb425)); clear HB; have HB := n0_; have BK425 := n1_; have GW425 := n2_; have GE425 := n3_; clear n0_ n1_ n2_ n3_; clear hb hbox hg) | ((with_reducible refine gate_dst (N := 7) rfl ?_); refine box_event ?hg (N := 7) ?hd (cs := #[.slice A1_0 l1_0.length c1_0]) (t := 24) ?hr ?_; (case hd => rfl); (case hg => rfl); (case hr => first | (go_simp; done) | (go_simp; rfl)); intro gb426 hg w15 hbox hb; have n0_ := kl BK425 hb; have n1_ := ls1 HB GE425 hb; have n2_ := Aside0.mk (hbox); have n3_ := Aside0.mk ((by rw [hg]; exact (below_size (lb1 HB GE425)) : w.heap.size ≤ gb426)); have n4_ := Aside0.mk ((by rw [hg]; exact (below_size (lb1 HB GE425)) : w.heap.size ≤ gb426)); have n5_ := kn BK425 hg; have n6_ := km BK425 hg; clear BK425; clear HB; have BK425 := n0_; have HB := n1_; have BK426 := n2_; have GW426 := n3_; have GE426 := n4_; have NB425_426 := n5_; have NB426_425 := n6_; clear n0_ n1_ n2_ n3_ n4_ n5_ n6_; clear hb hbox hg) | ((with_reducible refine gate_callee (f := 21) rfl ?_); refine goesL_ (some 29) rfl rfl Tryd.func21 (by kernel_rfl) rfl #[] rfl (by (try simp only [List.map_toArray, List.map_cons, List.map_nil]); first | done | rfl | (simp only [List.length_drop, List.length_take]; rfl)) ?_; (with_reducible refine (crossbarlaw28_sane.calls k  true _ A7.out).mono ?_); rintro e w16 ⟨rfl, hb⟩; refine ⟨_, rfl, ?_⟩; have n0_ := kl BK425 hb; have n1_ := kl BK426 hb; have n2_ := ls2 HB GE425 GE426 hb; clear BK425; clear BK426; clear HB; have BK425 := n0_; have BK426 := n1_; have HB := n2_; clear n0_ n1_ n2_; (try clear hb); (try clear hb2); (try clear hk); (try clear hi); have hnb17 := NB425_426.out; have hnc17 := NB426_425.out; have hcz18_0 := bc BK425 0; have hcz18_1 := bc BK425 1; have hcz18_2 := bc BK425 2; have hfz18_0 := blk_frozen BK425.out 0; have hfz18_1 := blk_frozen BK425.out 1; have hfz18_2 := blk_frozen BK425.out 2; have hcz19_0 := bc BK426 0; have hfz19_0 := blk_frozen BK426.out 0) | ((with_reducible refine gate_callee (f := 22) rfl ?_); refine goesL_ (some 33) rfl rfl Tryd.func22 (by kernel_rfl) rfl #[.agg #[.string a0_0, .int .i64 a0_1, .slice A0_2 l0_2.length c0_2], .agg #[.slice A1_0 l1_0.length c1_0]] rfl (by (try simp only [List.map_toArray, List.map_cons, List.map_nil]); first | done | rfl | (simp only [List.length_drop, List.length_take]; rfl)) ?_; (with_reducible refine (crossbarref28_Few.calls a0_0 a0_1 _ _ l0_2 _ _ l1_0 true _ ?side1 ?side2 ?side3 ?side4 A9.out).mono ?_); (case side1 => repeat (first | exact (Kd.C_below HR0_2.out HB.out) | (with_reducible refine Kd.C_alloc ?_ _) | (with_reducible refine Kd.C_drewN ?_ _) | (with_reducible refine Kd.C_drew ?_))); (case side2 => exact HC0_2.out); (case side3 => repeat (first | exact (Kd.C_below HR1_0.out HB.out) | (with_reducible refine Kd.C_alloc ?_ _) | (with_reducible refine Kd.C_drewN ?_ _) | (with_reducible refine Kd.C_drew ?_))); (case side4 => exact HC1_0.out); rintro e w20 ⟨rfl, hb⟩; refine ⟨_, rfl, ?_⟩; have n0_ := kl BK425 hb; have n1_ := kl BK426 hb; have n2_ := ls2 HB GE425 GE426 hb; clear BK425; clear BK426; clear HB; have BK425 := n0_; have BK426 := n1_; have HB := n2_; clear n0_ n1_ n2_; (try clear hb); (try clear hb2); (try clear hk); (try clear hi); have hcz21_0 := bc BK425 0; have hcz21_1 := bc BK425 1; have hcz21_2 := bc BK425 2; have hfz21_0 := blk_frozen BK425.out 0; have hfz21_1 := blk_frozen BK425.out 1; have hfz21_2 := blk_frozen BK425.out 2) | ((with_reducible refine gate_callee (f := 27) rfl ?_); refine goesL_ (some 38) rfl rfl Tryd.func27 (by kernel_rfl) rfl #[.agg #[.string a0_0, .int .i64 a0_1, .slice A0_2 l0_2.length c0_2], .int .i64 a4] rfl (by (try simp only [List.map_toArray, List.map_cons, List.map_nil]); first | done | rfl | (simp only [List.length_drop, List.length_take]; rfl)) ?_; (with_reducible refine (prepaid_Deposit.calls a0_0 a0_1 _ _ l0_2 a4 t429 t430 t431 t434 _ ?side1 ?side2 A11.out).mono ?_); (case side1 => repeat (first | exact (Kd.C_below HR0_2.out HB.out) | (with_reducible refine Kd.C_alloc ?_ _) | (with_reducible refine Kd.C_drewN ?_ _) | (with_reducible refine Kd.C_drew ?_))); (case side2 => exact HC0_2.out); rintro e w22 ⟨v432, rfl, ho0, hb⟩; refine ⟨_, rfl, ?_⟩; have n0_ := Aside0.mk (Kd.R_lower ho0 (below_size (lb2 HB GE425 GE426))); have n1_ := kl BK425 hb; have n2_ := kl BK426 hb; have n3_ := ls2 HB GE425 GE426 hb; clear BK425; clear BK426; clear HB; have HO433 := n0_; have BK425 := n1_; have BK426 := n2_; have HB := n3_; clear n0_ n1_ n2_ n3_; (try clear hb); (try clear hb2); (try clear hk); (try clear hi); (try clear ho0)) | ((with_reducible refine gate_dst (N := 13) rfl ?_); refine box_event ?hg (N := 13) ?hd (cs := #[.string (⟨#[]⟩ : ByteArray), .int .i64 0, .slice none 0 0]) (t := 31) ?hr ?_; (case hd => rfl); (case hg => rfl); (case hr => first | (go_simp; done) | (go_simp; rfl)); intro gb435 hg w23 hbox hb; have n0_ := Aside0.mk (Kd.R_below (rk HO433) hb); have n1_ := kl BK425 hb; have n2_ := kl BK426 hb; have n3_ := ls2 HB GE425 GE426 hb; have n4_ := Aside0.mk (hbox); have n5_ := Aside0.mk ((by rw [hg]; exact (below_size (lb2 HB GE425 GE426)) : w.heap.size ≤ gb435)); have n6_ := Aside0.mk ((by rw [hg]; exact (below_size (lb2 HB GE425 GE426)) : w.heap.size ≤ gb435)); have n7_ := kn BK425 hg; have n8_ := km BK425 hg; have n9_ := kn BK426 hg; have n10_ := km BK426 hg; clear HO433; clear BK425; clear BK426; clear HB; have HO433 := n0_; have BK425 := n1_; have BK426 := n2_; have HB := n3_; have BK435 := n4_; have GW435 := n5_; have GE435 := n6_; have NB425_435 := n7_; have NB435_425 := n8_; have NB426_435 := n9_; have NB435_426 := n10_; clear n0_ n1_ n2_ n3_ n4_ n5_ n6_ n7_ n8_ n9_ n10_; clear hb hbox hg; have hnb24 := NB435_425.out; have hnc24 := NB425_435.out; have hnb25 := NB435_426.out; have hnc25 := NB426_435.out; have hcz26_0 := bc BK435 0; have hcz26_1 := bc BK435 1; have hcz26_2 := bc BK435 2; have hfz26_0 := blk_frozen BK435.out 0; have hfz26_1 := blk_frozen BK435.out 1; have hfz26_2 := blk_frozen BK435.out 2; obtain ⟨Ao27, co27, eo27⟩ := Kd.R_slice HO433.out; subst eo27) | ((with_reducible refine gate_callee (f := 27) rfl ?_); refine goesL_ (some 44) rfl rfl Tryd.func27 (by kernel_rfl) rfl #[.agg #[.string t429, .int .i64 t430, .slice Ao27 t431.length co27], .int .i64 a5] rfl (by (try simp only [List.map_toArray, List.map_cons, List.map_nil]); first | done | rfl | (simp only [List.length_drop, List.length_take]; rfl)) ?_; (with_reducible refine (prepaid_Deposit.calls t429 t430 _ _ t431 a5 t436 t437 t438 t441 _ ?side1 ?side2 A12.out).mono ?_); (case side1 => refine (Kd.R_reads' (e := 54) (base := w.heap.size) (ok := fun k_ => True) (n := t431.length) (c := co27) ?_).2.2; exact (by (with_reducible repeat (first | apply Kd.R_alloc | apply Kd.R_drewN | apply Kd.R_drew)); exact (Kd.R_mono (Kd.R_far (p := ⟨gb435, 2, none⟩) (Kd.R_far (p := ⟨gb435, 1, none⟩) (Kd.R_far (p := ⟨gb435, 0, none⟩) (Kd.R_types HO433.out BK435.out (by decide)) (fun _ hk => hk.2) (.string t429)) (fun _ hk => hk.2) (.int .i64 t430)) (fun _ hk => hk.2) (.slice Ao27 t431.length co27)) (fun _ h_ => h_.1)))); (case side2 => exact (Kd.R_reads' HO433.out).2.1); rintro e w28 ⟨v439, rfl, ho0, hb⟩; refine ⟨_, rfl, ?_⟩; have n0_ := Aside0.mk (Kd.R_elder' (by (with_reducible repeat (first | apply Kd.R_alloc | apply Kd.R_drewN | apply Kd.R_drew)); exact (Kd.R_mono (Kd.R_far (p := ⟨gb435, 2, none⟩) (Kd.R_far (p := ⟨gb435, 1, none⟩) (Kd.R_far (p := ⟨gb435, 0, none⟩) (Kd.R_types HO433.out BK435.out (by decide)) (fun _ hk => hk.2) (.string t429)) (fun _ hk => hk.2) (.int .i64 t430)) (fun _ hk => hk.2) (.slice Ao27 t431.length co27)) (fun _ h_ => h_.1))) (Kd.R_base ho0) hb); have n1_ := Aside0.mk (Kd.R_lower (Kd.R_new' ho0 (Kd.R_lt (by (with_reducible repeat (first | apply Kd.R_alloc | apply Kd.R_drewN | apply Kd.R_drew)); exact (Kd.R_mono (Kd.R_far (p := ⟨gb435, 2, none⟩) (Kd.R_far (p := ⟨gb435, 1, none⟩) (Kd.R_far (p := ⟨gb435, 0, none⟩) (Kd.R_types HO433.out BK435.out (by decide)) (fun _ hk => hk.2) (.string t429)) (fun _ hk => hk.2) (.int .i64 t430)) (fun _ hk => hk.2) (.slice Ao27 t431.length co27)) (fun _ h_ => h_.1))))) (below_size (lb3 HB GE425 GE426 GE435))); have n2_ := kl1 BK425 NB425_435 hb; have n3_ := kl1 BK426 NB426_435 hb; have n4_ := Aside0.mk (blk_below (g := gb435) (o := .cells #[.string t429, .int .i64 t430, .slice Ao27 t431.length co27] 31 (0, 0)) (by (with_reducible repeat (first | refine blk_drewN ?_ _ | refine blk_drew ?_ | refine blk_alloc ?_ _)); refine blk_put (cs := #[.string t429, .int .i64 t430, .slice none 0 0]) ?_ 2 _ rfl; (with_reducible repeat (first | refine blk_drewN ?_ _ | refine blk_drew ?_ | refine blk_alloc ?_ _)); refine blk_put (cs := #[.string t429, .int .i64 0, .slice none 0 0]) ?_ 1 _ rfl; (with_reducible repeat (first | refine blk_drewN ?_ _ | refine blk_drew ?_ | refine blk_alloc ?_ _)); refine blk_put (cs := #[.string (⟨#[]⟩ : ByteArray), .int .i64 0, .slice none 0 0]) ?_ 0 _ rfl; (with_reducible repeat (first | refine blk_drewN ?_ _ | refine blk_drew ?_ | refine blk_alloc ?_ _)); exact BK435.out) hb); have n5_ := ls3 HB GE425 GE426 GE435 hb; clear HO433; clear BK425; clear BK426; clear BK435; clear HB; have HO433 := n0_; have HO440 := n1_; have BK425 := n2_; have BK426 := n3_; have BK435 := n4_; have HB := n5_; clear n0_ n1_ n2_ n3_ n4_ n5_; (try clear hb); (try clear hb2); (try clear hk); (try clear hi); (try clear ho0)) | ((with_reducible refine gate_dst (N := 15) rfl ?_); refine box_event ?hg (N := 15) ?hd (cs := #[.string (⟨#[]⟩ : ByteArray), .int .i64 0, .slice none 0 0]) (t := 31) ?hr ?_; (case hd => rfl); (case hg => rfl); (case hr => first | (go_simp; done) | (go_simp; rfl)); intro gb442 hg w29 hbox hb; have n0_ := Aside0.mk (Kd.R_below (rk HO433) hb); have n1_ := Aside0.mk (Kd.R_below (rk HO440) hb); have n2_ := kl BK425 hb; have n3_ := kl BK426 hb; have n4_ := kl BK435 hb; have n5_ := ls3 HB GE425 GE426 GE435 hb; have n6_ := Aside0.mk (hbox); have n7_ := Aside0.mk ((by rw [hg]; exact (below_size (lb3 HB GE425 GE426 GE435)) : w.heap.size ≤ gb442)); have n8_ := Aside0.mk ((by rw [hg]; exact (below_size (lb3 HB GE425 GE426 GE435)) : w.heap.size ≤ gb442)); have n9_ := kn BK425 hg; have n10_ := km BK425 hg; have n11_ := kn BK426 hg; have n12_ := km BK426 hg; have n13_ := kn BK435 hg; have n14_ := km BK435 hg; clear HO433; clear HO440; clear BK425; clear BK426; clear BK435; clear HB; have HO433 := n0_; have HO440 := n1_; have BK425 := n2_; have BK426 := n3_; have BK435 := n4_; have HB := n5_; have BK442 := n6_; have GW442 := n7_; have GE442 := n8_; have NB425_442 := n9_; have NB442_425 := n10_; have NB426_442 := n11_; have NB442_426 := n12_; have NB435_442 := n13_; have NB442_435 := n14_; clear n0_ n1_ n2_ n3_ n4_ n5_ n6_ n7_ n8_ n9_ n10_ n11_ n12_ n13_ n14_; clear hb hbox hg; have hnb30 := NB442_425.out; have hnc30 := NB425_442.out; have hnb31 := NB442_426.out; have hnc31 := NB426_442.out; have hnb32 := NB442_435.out; have hnc32 := NB435_442.out; have hcz33_0 := bc BK442 0; have hcz33_1 := bc BK442 1; have hcz33_2 := bc BK442 2; have hfz33_0 := blk_frozen BK442.out 0; have hfz33_1 := blk_frozen BK442.out 1; have hfz33_2 := blk_frozen BK442.out 2; obtain ⟨Ao34, co34, eo34⟩ := Kd.R_slice HO440.out; subst eo34))
   (try simp only [Act.put, List.setIfInBounds_toArray, List.set_cons_zero, List.set_cons_succ])
   go_cut [52] (fun v52 wc => ∃ (kq : Nat) (x52_12 : Bool), v52 = .bool x52_12 ∧ Aside0 (crossbarlaw28_PrepaidDeposits.j0 kq a2 a3 a4 a5 t434 t441 x52_12 a0_0 a0_1 l0_2 l1_0 t436 t437 t438 = some r) ∧ Aside0 (kq ≤ k) ∧ Aside0 (Kd.R k54 54 wc w.heap.size (fun k_ => some k_ ≠ ((.slice Ao34 t438.length co34) : Value).ownBlock) (.slice Ao27 t431.length co27) t431) ∧ Aside0 (Kd.R k54 54 wc w.heap.size (fun k_ => some k_ ≠ ((.slice Ao27 t431.length co27) : Value).ownBlock) (.slice Ao34 t438.length co34) t438) ∧ Aside0 (wc.heap[gb425]? = some (.cells #[.string a0_0, .int .i64 a0_1, (.slice A0_2 l0_2.length c0_2)] 31 (0, 0))) ∧ Aside0 (wc.heap[gb426]? = some (.cells #[(.slice A1_0 l1_0.length c1_0)] 24 (0, 0))) ∧ Aside0 (wc.heap[gb435]? = some (.cells #[.string t429, .int .i64 t430, (.slice Ao27 t431.length co27)] 31 (0, 0))) ∧ Aside0 (wc.heap[gb442]? = some (.cells #[.string t436, .int .i64 t437, (.slice Ao34 t438.length co34)] 31 (0, 0))) ∧ Aside0 (Below w.heap.size w wc))
   case first =>
    have H := HC13.out
    clear HC13
    by_cases c35 : t434 = 0
    ·rw [if_pos c35] at H
     have c35b0 : (t434 == 0) = true := beq_iff_eq.mpr c35
     have c35b1 : (t434 != 0) = false := bne_eq_false_iff_eq.mpr c35
     clear c35
     (first | rw [c35b0] | (simp only [i64_w, i32_w]; rw [c35b0]) | skip)
     have H' := Aside0.mk H
     clear H
     go_wp2
     go_meet
     case rel => exact ⟨_, ((t441 != 0)), (by first | rfl | (simp; done) | (simp [*]; done)), H', ⟨by first | omega | exact Nat.le_refl _⟩, ⟨by (with_reducible repeat (first | apply Kd.R_alloc | apply Kd.R_drewN | apply Kd.R_drew)); exact Kd.R_mono (Kd.R_far (p := ⟨gb442, 2, none⟩) (Kd.R_far (p := ⟨gb442, 1, none⟩) (Kd.R_far (p := ⟨gb442, 0, none⟩) (Kd.R_types HO433.out BK442.out (by decide)) (fun _ hk => hk.2) (.string t436)) (fun _ hk => hk.2) (.int .i64 t437)) (fun _ hk => hk.2) (.slice Ao34 t438.length co34)) (fun _ hk => hk.1.2)⟩, ⟨by (with_reducible repeat (first | apply Kd.R_alloc | apply Kd.R_drewN | apply Kd.R_drew)); exact Kd.R_mono (Kd.R_far (p := ⟨gb442, 2, none⟩) (Kd.R_far (p := ⟨gb442, 1, none⟩) (Kd.R_far (p := ⟨gb442, 0, none⟩) (Kd.R_types HO440.out BK442.out (by decide)) (fun _ hk => hk.2) (.string t436)) (fun _ hk => hk.2) (.int .i64 t437)) (fun _ hk => hk.2) (.slice Ao34 t438.length co34)) (fun _ hk => hk.1.2)⟩, ⟨kf1 BK425 NB425_442⟩, ⟨kf1 BK426 NB426_442⟩, ⟨kf1 BK435 NB435_442⟩, ⟨by (with_reducible repeat (first | refine blk_drewN ?_ _ | refine blk_drew ?_ | refine blk_alloc ?_ _)); refine blk_put (cs := #[.string t436, .int .i64 t437, .slice none 0 0]) ?_ 2 _ rfl; (with_reducible repeat (first | refine blk_drewN ?_ _ | refine blk_drew ?_ | refine blk_alloc ?_ _)); refine blk_put (cs := #[.string t436, .int .i64 0, .slice none 0 0]) ?_ 1 _ rfl; (with_reducible repeat (first | refine blk_drewN ?_ _ | refine blk_drew ?_ | refine blk_alloc ?_ _)); refine blk_put (cs := #[.string (⟨#[]⟩ : ByteArray), .int .i64 0, .slice none 0 0]) ?_ 0 _ rfl; (with_reducible repeat (first | refine blk_drewN ?_ _ | refine blk_drew ?_ | refine blk_alloc ?_ _)); exact BK442.out⟩, ⟨lb4 HB GE425 GE426 GE435 GE442⟩⟩
    ·rw [if_neg c35] at H
     have c35b0 : (t434 == 0) = false := beq_eq_false_iff_ne.mpr c35
     have c35b1 : (t434 != 0) = true := bne_iff_ne.mpr c35
     (first | rw [c35b0] | (simp only [i64_w, i32_w]; rw [c35b0]) | skip)
     have H' := Aside0.mk H
     clear H
     go_wp2
     go_meet
     case rel => exact ⟨_, (true), (by first | rfl | (simp; done) | (simp [*]; done)), H', ⟨by first | omega | exact Nat.le_refl _⟩, ⟨by (with_reducible repeat (first | apply Kd.R_alloc | apply Kd.R_drewN | apply Kd.R_drew)); exact Kd.R_mono (Kd.R_far (p := ⟨gb442, 2, none⟩) (Kd.R_far (p := ⟨gb442, 1, none⟩) (Kd.R_far (p := ⟨gb442, 0, none⟩) (Kd.R_types HO433.out BK442.out (by decide)) (fun _ hk => hk.2) (.string t436)) (fun _ hk => hk.2) (.int .i64 t437)) (fun _ hk => hk.2) (.slice Ao34 t438.length co34)) (fun _ hk => hk.1.2)⟩, ⟨by (with_reducible repeat (first | apply Kd.R_alloc | apply Kd.R_drewN | apply Kd.R_drew)); exact Kd.R_mono (Kd.R_far (p := ⟨gb442, 2, none⟩) (Kd.R_far (p := ⟨gb442, 1, none⟩) (Kd.R_far (p := ⟨gb442, 0, none⟩) (Kd.R_types HO440.out BK442.out (by decide)) (fun _ hk => hk.2) (.string t436)) (fun _ hk => hk.2) (.int .i64 t437)) (fun _ hk => hk.2) (.slice Ao34 t438.length co34)) (fun _ hk => hk.1.2)⟩, ⟨kf1 BK425 NB425_442⟩, ⟨kf1 BK426 NB426_442⟩, ⟨kf1 BK435 NB435_442⟩, ⟨by (with_reducible repeat (first | refine blk_drewN ?_ _ | refine blk_drew ?_ | refine blk_alloc ?_ _)); refine blk_put (cs := #[.string t436, .int .i64 t437, .slice none 0 0]) ?_ 2 _ rfl; (with_reducible repeat (first | refine blk_drewN ?_ _ | refine blk_drew ?_ | refine blk_alloc ?_ _)); refine blk_put (cs := #[.string t436, .int .i64 0, .slice none 0 0]) ?_ 1 _ rfl; (with_reducible repeat (first | refine blk_drewN ?_ _ | refine blk_drew ?_ | refine blk_alloc ?_ _)); refine blk_put (cs := #[.string (⟨#[]⟩ : ByteArray), .int .i64 0, .slice none 0 0]) ?_ 0 _ rfl; (with_reducible repeat (first | refine blk_drewN ?_ _ | refine blk_drew ?_ | refine blk_alloc ?_ _)); exact BK442.out⟩, ⟨lb4 HB GE425 GE426 GE435 GE442⟩⟩
   case rest =>
    clear HC13
    try clear c1; try clear c2; try clear p2; try clear c3; try clear c8; try clear c10; try clear c17; try clear c21; try clear c22; try clear c24; try clear c25; try clear c27; try clear c30; try clear c31; try clear c32; try clear c35; try clear c35b0; try clear c35b1; try clear hcz18_0; try clear hcz18_1; try clear hcz18_2; try clear hcz19_0; try clear hcz21_0; try clear hcz21_1; try clear hcz21_2; try clear hcz26_0; try clear hcz26_1; try clear hcz26_2; try clear hcz33_0; try clear hcz33_1; try clear hcz33_2; try clear hfz18_0; try clear hfz18_1; try clear hfz18_2; try clear hfz19_0; try clear hfz21_0; try clear hfz21_1; try clear hfz21_2; try clear hfz26_0; try clear hfz26_1; try clear hfz26_2; try clear hfz33_0; try clear hfz33_1; try clear hfz33_2
    obtain ⟨kq, x52_12, rfl, HA, HJ12, HO_436002, HO_443002, BK425, BK426, BK435, BK442, HB⟩ := hcut
    cases kq with
    | zero => exact absurd HA.out (by simp [crossbarlaw28_PrepaidDeposits.j0])
    | succ kj12 =>
     have H := HA.out
     clear HA
     simp only [crossbarlaw28_PrepaidDeposits.j0] at H
     by_cases c36 : x52_12 = true
     ·subst c36
      have H1 : (if t434 = 0 then (if t441 = 1 then (some true) else (some (t441 == 2))) else (some true)) = some r := by rw [if_pos rfl] at H; exact H
      clear H
      have H := H1
      clear H1
      by_cases c37 : t434 = 0
      ·rw [if_pos c37] at H
       have c37b0 : (t434 == 0) = true := beq_iff_eq.mpr c37
       have c37b1 : (t434 != 0) = false := bne_eq_false_iff_eq.mpr c37
       clear c37
       by_cases c38 : t441 = 1
       ·rw [if_pos c38] at H
        have c38b0 : (t441 == 1) = true := beq_iff_eq.mpr c38
        have c38b1 : (t441 != 1) = false := bne_eq_false_iff_eq.mpr c38
        clear c38
        obtain rfl := Option.some.inj H
        go_wp2
        go_ret
        exact ⟨by first | rfl | (simp [errW_none, errW_some] <;> rfl) | (simp [*, errW_none, errW_some] <;> rfl), lb4 HB GE425 GE426 GE435 GE442⟩
       ·rw [if_neg c38] at H
        have c38b0 : (t441 == 1) = false := beq_eq_false_iff_ne.mpr c38
        have c38b1 : (t441 != 1) = true := bne_iff_ne.mpr c38
        obtain rfl := Option.some.inj H
        go_wp2
        go_ret
        exact ⟨by first | rfl | (simp [errW_none, errW_some] <;> rfl) | (simp [*, errW_none, errW_some] <;> rfl), lb4 HB GE425 GE426 GE435 GE442⟩
      ·rw [if_neg c37] at H
       have c37b0 : (t434 == 0) = false := beq_eq_false_iff_ne.mpr c37
       have c37b1 : (t434 != 0) = true := bne_iff_ne.mpr c37
       obtain rfl := Option.some.inj H
       go_wp2
       go_ret
       exact ⟨by first | rfl | (simp [errW_none, errW_some] <;> rfl) | (simp [*, errW_none, errW_some] <;> rfl), lb4 HB GE425 GE426 GE435 GE442⟩
     ·replace c36 := Bool.eq_false_iff.mpr c36
      subst c36
      have H1 : ((prepaid_Deposit.f a0_0 a0_1 l0_2 (wrap64 (a4 + a5))).bind fun bt443 => (if (wrap64 (a4 + a5)) ≤ 1099511627776 then (if bt443.2.2.2 = 0 then ((crossbarref28_Same.f kj12 t436 t437 t438 bt443.1 bt443.2.1 bt443.2.2.1).bind fun t450 => (crossbarlaw28_PrepaidDeposits.j1 kj12 a2 a3 (!t450) a0_0 a0_1 l0_2 l1_0 t436 t437 t438)) else (crossbarlaw28_PrepaidDeposits.j1 kj12 a2 a3 true a0_0 a0_1 l0_2 l1_0 t436 t437 t438)) else (crossbarlaw28_PrepaidDeposits.j1 kj12 a2 a3 false a0_0 a0_1 l0_2 l1_0 t436 t437 t438))) = some r := by rw [if_neg (show ¬ (false = true) by decide)] at H; exact H
      clear H
      have H := H1
      clear H1
      replace H := Option.bind_eq_some_iff.mp H
      obtain ⟨⟨t443, t444, t445, t448⟩, A390, H⟩ := H
      replace H : (if (wrap64 (a4 + a5)) ≤ 1099511627776 then (if t448 = 0 then ((crossbarref28_Same.f kj12 t436 t437 t438 t443 t444 t445).bind fun t450 => (crossbarlaw28_PrepaidDeposits.j1 kj12 a2 a3 (!t450) a0_0 a0_1 l0_2 l1_0 t436 t437 t438)) else (crossbarlaw28_PrepaidDeposits.j1 kj12 a2 a3 true a0_0 a0_1 l0_2 l1_0 t436 t437 t438)) else (crossbarlaw28_PrepaidDeposits.j1 kj12 a2 a3 false a0_0 a0_1 l0_2 l1_0 t436 t437 t438)) = some r := H
      have A39 := Aside0.mk A390
      clear A390
      have HC40 := Aside0.mk H
      clear H
      have hnb41 := NB425_426.out
      have hnc41 := NB426_425.out
      have hnb42 := NB425_435.out
      have hnc42 := NB435_425.out
      have hnb43 := NB425_442.out
      have hnc43 := NB442_425.out
      have hcz44_0 := bc BK425 0
      have hcz44_1 := bc BK425 1
      have hcz44_2 := bc BK425 2
      have hfz44_0 := blk_frozen BK425.out 0
      have hfz44_1 := blk_frozen BK425.out 1
      have hfz44_2 := blk_frozen BK425.out 2
      go_upto_region 10 with (first | ((with_reducible refine gate_callee (f := 27) rfl ?_); refine goesL_ (some 68) rfl rfl Tryd.func27 (by kernel_rfl) rfl #[.agg #[.string a0_0, .int .i64 a0_1, .slice A0_2 l0_2.length c0_2], .int .i64 (wrap64 (a4 + a5))] rfl (by (try simp only [List.map_toArray, List.map_cons, List.map_nil]); first | done | rfl | (simp only [List.length_drop, List.length_take]; rfl)) ?_; (with_reducible refine (prepaid_Deposit.calls a0_0 a0_1 _ _ l0_2 (wrap64 (a4 + a5)) t443 t444 t445 t448 _ ?side1 ?side2 A39.out).mono ?_); (case side1 => repeat (first | exact (Kd.C_below HR0_2.out HB.out) | (with_reducible refine Kd.C_alloc ?_ _) | (with_reducible refine Kd.C_drewN ?_ _) | (with_reducible refine Kd.C_drew ?_))); (case side2 => exact HC0_2.out); rintro e w45 ⟨v446, rfl, ho0, hb⟩; refine ⟨_, rfl, ?_⟩; have n0_ := Aside0.mk (Kd.R_elder' (rk HO_436002) (Kd.R_base ho0) hb); have n1_ := Aside0.mk (Kd.R_elder' (rk HO_443002) (Kd.R_base ho0) hb); have n2_ := Aside0.mk (Kd.R_lower (Kd.R_new' (Kd.R_new' ho0 (Kd.R_lt (rk HO_436002))) (Kd.R_lt (rk HO_443002))) (below_size (lb4 HB GE425 GE426 GE435 GE442))); have n3_ := kl BK425 hb; have n4_ := kl BK426 hb; have n5_ := kl BK435 hb; have n6_ := kl BK442 hb; have n7_ := ls4 HB GE425 GE426 GE435 GE442 hb; clear HO_436002; clear HO_443002; clear BK425; clear BK426; clear BK435; clear BK442; clear HB; have HO_436002 := n0_; have HO_443002 := n1_; have HO447 := n2_; have BK425 := n3_; have BK426 := n4_; have BK435 := n5_; have BK442 := n6_; have HB := n7_; clear n0_ n1_ n2_ n3_ n4_ n5_ n6_ n7_; (try clear hb); (try clear hb2); (try clear hk); (try clear hi); (try clear ho0)) | ((with_reducible refine gate_dst (N := 17) rfl ?_); refine box_event ?hg (N := 17) ?hd (cs := #[.string (⟨#[]⟩ : ByteArray), .int .i64 0, .slice none 0 0]) (t := 31) ?hr ?_; (case hd => rfl); (case hg => rfl); (case hr => first | (go_simp; done) | (go_simp; rfl)); intro gb449 hg w46 hbox hb; have n0_ := Aside0.mk (Kd.R_below (rk HO_436002) hb); have n1_ := Aside0.mk (Kd.R_below (rk HO_443002) hb); have n2_ := Aside0.mk (Kd.R_below (rk HO447) hb); have n3_ := kl BK425 hb; have n4_ := kl BK426 hb; have n5_ := kl BK435 hb; have n6_ := kl BK442 hb; have n7_ := ls4 HB GE425 GE426 GE435 GE442 hb; have n8_ := Aside0.mk (hbox); have n9_ := Aside0.mk ((by rw [hg]; exact (below_size (lb4 HB GE425 GE426 GE435 GE442)) : w.heap.size ≤ gb449)); have n10_ := Aside0.mk ((by rw [hg]; exact (below_size (lb4 HB GE425 GE426 GE435 GE442)) : w.heap.size ≤ gb449)); have n11_ := kn BK425 hg; have n12_ := km BK425 hg; have n13_ := kn BK426 hg; have n14_ := km BK426 hg; have n15_ := kn BK435 hg; have n16_ := km BK435 hg; have n17_ := kn BK442 hg; have n18_ := km BK442 hg; clear HO_436002; clear HO_443002; clear HO447; clear BK425; clear BK426; clear BK435; clear BK442; clear HB; have HO_436002 := n0_; have HO_443002 := n1_; have HO447 := n2_; have BK425 := n3_; have BK426 := n4_; have BK435 := n5_; have BK442 := n6_; have HB := n7_; have BK449 := n8_; have GW449 := n9_; have GE449 := n10_; have NB425_449 := n11_; have NB449_425 := n12_; have NB426_449 := n13_; have NB449_426 := n14_; have NB435_449 := n15_; have NB449_435 := n16_; have NB442_449 := n17_; have NB449_442 := n18_; clear n0_ n1_ n2_ n3_ n4_ n5_ n6_ n7_ n8_ n9_ n10_ n11_ n12_ n13_ n14_ n15_ n16_ n17_ n18_; clear hb hbox hg; have hnb47 := NB449_425.out; have hnc47 := NB425_449.out; have hnb48 := NB449_426.out; have hnc48 := NB426_449.out; have hnb49 := NB449_435.out; have hnc49 := NB435_449.out; have hnb50 := NB449_442.out; have hnc50 := NB442_449.out; have hcz51_0 := bc BK449 0; have hcz51_1 := bc BK449 1; have hcz51_2 := bc BK449 2; have hfz51_0 := blk_frozen BK449.out 0; have hfz51_1 := blk_frozen BK449.out 1; have hfz51_2 := blk_frozen BK449.out 2; obtain ⟨Ao52, co52, eo52⟩ := Kd.R_slice HO447.out; subst eo52))
      (try simp only [Act.put, List.setIfInBounds_toArray, List.set_cons_zero, List.set_cons_succ])
      go_cut [84] (fun v84 wc => ∃ (kq : Nat) (x84_39 : Bool), v84 = .bool x84_39 ∧ Aside0 (crossbarlaw28_PrepaidDeposits.j1 kq a2 a3 x84_39 a0_0 a0_1 l0_2 l1_0 t436 t437 t438 = some r) ∧ Aside0 (kq ≤ kj12) ∧ Aside0 (Kd.R k54 54 wc w.heap.size (fun k_ => some k_ ≠ ((.slice Ao34 t438.length co34) : Value).ownBlock ∧ some k_ ≠ ((.slice Ao52 t445.length co52) : Value).ownBlock) (.slice Ao27 t431.length co27) t431) ∧ Aside0 (Kd.R k54 54 wc w.heap.size (fun k_ => some k_ ≠ ((.slice Ao27 t431.length co27) : Value).ownBlock ∧ some k_ ≠ ((.slice Ao52 t445.length co52) : Value).ownBlock) (.slice Ao34 t438.length co34) t438) ∧ Aside0 (Kd.R k54 54 wc w.heap.size (fun k_ => some k_ ≠ ((.slice Ao27 t431.length co27) : Value).ownBlock ∧ some k_ ≠ ((.slice Ao34 t438.length co34) : Value).ownBlock) (.slice Ao52 t445.length co52) t445) ∧ Aside0 (wc.heap[gb425]? = some (.cells #[.string a0_0, .int .i64 a0_1, (.slice A0_2 l0_2.length c0_2)] 31 (0, 0))) ∧ Aside0 (wc.heap[gb426]? = some (.cells #[(.slice A1_0 l1_0.length c1_0)] 24 (0, 0))) ∧ Aside0 (wc.heap[gb435]? = some (.cells #[.string t429, .int .i64 t430, (.slice Ao27 t431.length co27)] 31 (0, 0))) ∧ Aside0 (wc.heap[gb442]? = some (.cells #[.string t436, .int .i64 t437, (.slice Ao34 t438.length co34)] 31 (0, 0))) ∧ Aside0 (wc.heap[gb449]? = some (.cells #[.string t443, .int .i64 t444, (.slice Ao52 t445.length co52)] 31 (0, 0))) ∧ Aside0 (Below w.heap.size w wc))
      case first =>
       have H := HC40.out
       clear HC40
       by_cases c53 : (wrap64 (a4 + a5)) ≤ 1099511627776
       ·rw [if_pos c53] at H
        have c53b0 : decide ((wrap64 (a4 + a5)) ≤ 1099511627776) = true := decide_eq_true c53
        clear c53
        (first | rw [c53b0] | (simp only [i64_w, i32_w]; rw [c53b0]) | skip)
        by_cases c54 : t448 = 0
        ·rw [if_pos c54] at H
         have c54b0 : (t448 == 0) = true := beq_iff_eq.mpr c54
         have c54b1 : (t448 != 0) = false := bne_eq_false_iff_eq.mpr c54
         clear c54
         replace H := Option.bind_eq_some_iff.mp H
         obtain ⟨t450, A550, H⟩ := H
         replace H : (crossbarlaw28_PrepaidDeposits.j1 kj12 a2 a3 (!t450) a0_0 a0_1 l0_2 l1_0 t436 t437 t438) = some r := H
         have A55 := Aside0.mk A550
         clear A550
         have H' := Aside0.mk H
         clear H
         have hnb56 := NB442_425.out
         have hnc56 := NB425_442.out
         have hnb57 := NB442_426.out
         have hnc57 := NB426_442.out
         have hnb58 := NB442_435.out
         have hnc58 := NB435_442.out
         have hnb59 := NB442_449.out
         have hnc59 := NB449_442.out
         have hcz60_0 := bc BK442 0
         have hcz60_1 := bc BK442 1
         have hcz60_2 := bc BK442 2
         have hfz60_0 := blk_frozen BK442.out 0
         have hfz60_1 := blk_frozen BK442.out 1
         have hfz60_2 := blk_frozen BK442.out 2
         have hnb61 := NB449_425.out
         have hnc61 := NB425_449.out
         have hnb62 := NB449_426.out
         have hnc62 := NB426_449.out
         have hnb63 := NB449_435.out
         have hnc63 := NB435_449.out
         have hcz64_0 := bc BK449 0
         have hcz64_1 := bc BK449 1
         have hcz64_2 := bc BK449 2
         have hfz64_0 := blk_frozen BK449.out 0
         have hfz64_1 := blk_frozen BK449.out 1
         have hfz64_2 := blk_frozen BK449.out 2
         go_wp2_with (first | (go_at_call 24; (with_reducible refine (crossbarref28_Same.calls kj12 t436 t437 _ _ t438 t443 t444 _ _ t445 t450 _ ?side1 ?side2 ?side3 ?side4 A55.out).mono ?_); (case side1 => refine (Kd.R_reads' (e := 54) (base := w.heap.size) (ok := fun k_ => (some k_ ≠ (.slice Ao27 t431.length co27 : Value).ownBlock ∧ some k_ ≠ (.slice Ao52 t445.length co52 : Value).ownBlock)) (n := t438.length) (c := co34) ?_).2.2; exact (by (with_reducible repeat (first | apply Kd.R_alloc | apply Kd.R_drewN | apply Kd.R_drew)); exact (Kd.R_mono (Kd.R_far (p := ⟨gb449, 2, none⟩) (Kd.R_far (p := ⟨gb449, 1, none⟩) (Kd.R_far (p := ⟨gb449, 0, none⟩) (Kd.R_types HO_443002.out BK449.out (by decide)) (fun _ hk => hk.2) (.string t443)) (fun _ hk => hk.2) (.int .i64 t444)) (fun _ hk => hk.2) (.slice Ao52 t445.length co52)) (fun _ h_ => h_.1)))); (case side2 => exact (Kd.R_reads' HO_443002.out).2.1); (case side3 => refine (Kd.R_reads' (e := 54) (base := w.heap.size) (ok := fun k_ => ((True ∧ some k_ ≠ (.slice Ao27 t431.length co27 : Value).ownBlock) ∧ some k_ ≠ (.slice Ao34 t438.length co34 : Value).ownBlock)) (n := t445.length) (c := co52) ?_).2.2; exact (by (with_reducible repeat (first | apply Kd.R_alloc | apply Kd.R_drewN | apply Kd.R_drew)); exact (Kd.R_mono (Kd.R_far (p := ⟨gb449, 2, none⟩) (Kd.R_far (p := ⟨gb449, 1, none⟩) (Kd.R_far (p := ⟨gb449, 0, none⟩) (Kd.R_types HO447.out BK449.out (by decide)) (fun _ hk => hk.2) (.string t443)) (fun _ hk => hk.2) (.int .i64 t444)) (fun _ hk => hk.2) (.slice Ao52 t445.length co52)) (fun _ h_ => h_.1)))); (case side4 => exact (Kd.R_reads' HO447.out).2.1); rintro e w65 ⟨rfl, hb⟩; have n0_ := Aside0.mk (Kd.R_below (by (with_reducible repeat (first | apply Kd.R_alloc | apply Kd.R_drewN | apply Kd.R_drew)); exact (Kd.R_mono (Kd.R_far (p := ⟨gb449, 2, none⟩) (Kd.R_far (p := ⟨gb449, 1, none⟩) (Kd.R_far (p := ⟨gb449, 0, none⟩) (Kd.R_types HO_436002.out BK449.out (by decide)) (fun _ hk => hk.2) (.string t443)) (fun _ hk => hk.2) (.int .i64 t444)) (fun _ hk => hk.2) (.slice Ao52 t445.length co52)) (fun _ h_ => h_.1))) hb); have n1_ := Aside0.mk (Kd.R_below (by (with_reducible repeat (first | apply Kd.R_alloc | apply Kd.R_drewN | apply Kd.R_drew)); exact (Kd.R_mono (Kd.R_far (p := ⟨gb449, 2, none⟩) (Kd.R_far (p := ⟨gb449, 1, none⟩) (Kd.R_far (p := ⟨gb449, 0, none⟩) (Kd.R_types HO_443002.out BK449.out (by decide)) (fun _ hk => hk.2) (.string t443)) (fun _ hk => hk.2) (.int .i64 t444)) (fun _ hk => hk.2) (.slice Ao52 t445.length co52)) (fun _ h_ => h_.1))) hb); have n2_ := Aside0.mk (Kd.R_below (by (with_reducible repeat (first | apply Kd.R_alloc | apply Kd.R_drewN | apply Kd.R_drew)); exact (Kd.R_mono (Kd.R_far (p := ⟨gb449, 2, none⟩) (Kd.R_far (p := ⟨gb449, 1, none⟩) (Kd.R_far (p := ⟨gb449, 0, none⟩) (Kd.R_types HO447.out BK449.out (by decide)) (fun _ hk => hk.2) (.string t443)) (fun _ hk => hk.2) (.int .i64 t444)) (fun _ hk => hk.2) (.slice Ao52 t445.length co52)) (fun _ h_ => h_.1))) hb); have n3_ := kl1 BK425 NB425_449 hb; have n4_ := kl1 BK426 NB426_449 hb; have n5_ := kl1 BK435 NB435_449 hb; have n6_ := kl1 BK442 NB442_449 hb; have n7_ := Aside0.mk (blk_below (g := gb449) (o := .cells #[.string t443, .int .i64 t444, .slice Ao52 t445.length co52] 31 (0, 0)) (by (with_reducible repeat (first | refine blk_drewN ?_ _ | refine blk_drew ?_ | refine blk_alloc ?_ _)); refine blk_put (cs := #[.string t443, .int .i64 t444, .slice none 0 0]) ?_ 2 _ rfl; (with_reducible repeat (first | refine blk_drewN ?_ _ | refine blk_drew ?_ | refine blk_alloc ?_ _)); refine blk_put (cs := #[.string t443, .int .i64 0, .slice none 0 0]) ?_ 1 _ rfl; (with_reducible repeat (first | refine blk_drewN ?_ _ | refine blk_drew ?_ | refine blk_alloc ?_ _)); refine blk_put (cs := #[.string (⟨#[]⟩ : ByteArray), .int .i64 0, .slice none 0 0]) ?_ 0 _ rfl; (with_reducible repeat (first | refine blk_drewN ?_ _ | refine blk_drew ?_ | refine blk_alloc ?_ _)); exact BK449.out) hb); have n8_ := ls5 HB GE425 GE426 GE435 GE442 GE449 hb; clear HO_436002; clear HO_443002; clear HO447; clear BK425; clear BK426; clear BK435; clear BK442; clear BK449; clear HB; have HO_436002 := n0_; have HO_443002 := n1_; have HO447 := n2_; have BK425 := n3_; have BK426 := n4_; have BK435 := n5_; have BK442 := n6_; have BK449 := n7_; have HB := n8_; clear n0_ n1_ n2_ n3_ n4_ n5_ n6_ n7_ n8_; (try clear hb); (try clear hb2); (try clear hk); (try clear hi)))
         go_meet
         case rel => exact ⟨_, (!t450), (by first | rfl | (simp; done) | (simp [*]; done)), H', ⟨by have := HJ12.out; first | omega | exact Nat.le_refl _⟩, ⟨rk HO_436002⟩, ⟨rk HO_443002⟩, ⟨by (with_reducible repeat (first | apply Kd.R_alloc | apply Kd.R_drewN | apply Kd.R_drew)); exact Kd.R_mono HO447.out (fun _ hk => ⟨hk.1.2, hk.2⟩)⟩, ⟨kb BK425⟩, ⟨kb BK426⟩, ⟨kb BK435⟩, ⟨kb BK442⟩, ⟨kb BK449⟩, ⟨lb5 HB GE425 GE426 GE435 GE442 GE449⟩⟩
        ·rw [if_neg c54] at H
         have c54b0 : (t448 == 0) = false := beq_eq_false_iff_ne.mpr c54
         have c54b1 : (t448 != 0) = true := bne_iff_ne.mpr c54
         have H' := Aside0.mk H
         clear H
         go_wp2
         go_meet
         case rel => exact ⟨_, (true), (by first | rfl | (simp; done) | (simp [*]; done)), H', ⟨by have := HJ12.out; first | omega | exact Nat.le_refl _⟩, ⟨by (with_reducible repeat (first | apply Kd.R_alloc | apply Kd.R_drewN | apply Kd.R_drew)); exact Kd.R_mono (Kd.R_far (p := ⟨gb449, 2, none⟩) (Kd.R_far (p := ⟨gb449, 1, none⟩) (Kd.R_far (p := ⟨gb449, 0, none⟩) (Kd.R_types HO_436002.out BK449.out (by decide)) (fun _ hk => hk.2) (.string t443)) (fun _ hk => hk.2) (.int .i64 t444)) (fun _ hk => hk.2) (.slice Ao52 t445.length co52)) (fun _ hk => ⟨hk.1.1, hk.1.2⟩)⟩, ⟨by (with_reducible repeat (first | apply Kd.R_alloc | apply Kd.R_drewN | apply Kd.R_drew)); exact Kd.R_mono (Kd.R_far (p := ⟨gb449, 2, none⟩) (Kd.R_far (p := ⟨gb449, 1, none⟩) (Kd.R_far (p := ⟨gb449, 0, none⟩) (Kd.R_types HO_443002.out BK449.out (by decide)) (fun _ hk => hk.2) (.string t443)) (fun _ hk => hk.2) (.int .i64 t444)) (fun _ hk => hk.2) (.slice Ao52 t445.length co52)) (fun _ hk => ⟨hk.1.1, hk.1.2⟩)⟩, ⟨by (with_reducible repeat (first | apply Kd.R_alloc | apply Kd.R_drewN | apply Kd.R_drew)); exact Kd.R_mono (Kd.R_far (p := ⟨gb449, 2, none⟩) (Kd.R_far (p := ⟨gb449, 1, none⟩) (Kd.R_far (p := ⟨gb449, 0, none⟩) (Kd.R_types HO447.out BK449.out (by decide)) (fun _ hk => hk.2) (.string t443)) (fun _ hk => hk.2) (.int .i64 t444)) (fun _ hk => hk.2) (.slice Ao52 t445.length co52)) (fun _ hk => ⟨hk.1.1.2, hk.1.2⟩)⟩, ⟨kf1 BK425 NB425_449⟩, ⟨kf1 BK426 NB426_449⟩, ⟨kf1 BK435 NB435_449⟩, ⟨kf1 BK442 NB442_449⟩, ⟨by (with_reducible repeat (first | refine blk_drewN ?_ _ | refine blk_drew ?_ | refine blk_alloc ?_ _)); refine blk_put (cs := #[.string t443, .int .i64 t444, .slice none 0 0]) ?_ 2 _ rfl; (with_reducible repeat (first | refine blk_drewN ?_ _ | refine blk_drew ?_ | refine blk_alloc ?_ _)); refine blk_put (cs := #[.string t443, .int .i64 0, .slice none 0 0]) ?_ 1 _ rfl; (with_reducible repeat (first | refine blk_drewN ?_ _ | refine blk_drew ?_ | refine blk_alloc ?_ _)); refine blk_put (cs := #[.string (⟨#[]⟩ : ByteArray), .int .i64 0, .slice none 0 0]) ?_ 0 _ rfl; (with_reducible repeat (first | refine blk_drewN ?_ _ | refine blk_drew ?_ | refine blk_alloc ?_ _)); exact BK449.out⟩, ⟨lb5 HB GE425 GE426 GE435 GE442 GE449⟩⟩
       ·rw [if_neg c53] at H
        have c53b0 : decide ((wrap64 (a4 + a5)) ≤ 1099511627776) = false := decide_eq_false c53
        clear c53
        (first | rw [c53b0] | (simp only [i64_w, i32_w]; rw [c53b0]) | skip)
        have H' := Aside0.mk H
        clear H
        go_wp2
        go_meet
        case rel => exact ⟨_, (false), (by first | rfl | (simp; done) | (simp [*]; done)), H', ⟨by have := HJ12.out; first | omega | exact Nat.le_refl _⟩, ⟨by (with_reducible repeat (first | apply Kd.R_alloc | apply Kd.R_drewN | apply Kd.R_drew)); exact Kd.R_mono (Kd.R_far (p := ⟨gb449, 2, none⟩) (Kd.R_far (p := ⟨gb449, 1, none⟩) (Kd.R_far (p := ⟨gb449, 0, none⟩) (Kd.R_types HO_436002.out BK449.out (by decide)) (fun _ hk => hk.2) (.string t443)) (fun _ hk => hk.2) (.int .i64 t444)) (fun _ hk => hk.2) (.slice Ao52 t445.length co52)) (fun _ hk => ⟨hk.1.1, hk.1.2⟩)⟩, ⟨by (with_reducible repeat (first | apply Kd.R_alloc | apply Kd.R_drewN | apply Kd.R_drew)); exact Kd.R_mono (Kd.R_far (p := ⟨gb449, 2, none⟩) (Kd.R_far (p := ⟨gb449, 1, none⟩) (Kd.R_far (p := ⟨gb449, 0, none⟩) (Kd.R_types HO_443002.out BK449.out (by decide)) (fun _ hk => hk.2) (.string t443)) (fun _ hk => hk.2) (.int .i64 t444)) (fun _ hk => hk.2) (.slice Ao52 t445.length co52)) (fun _ hk => ⟨hk.1.1, hk.1.2⟩)⟩, ⟨by (with_reducible repeat (first | apply Kd.R_alloc | apply Kd.R_drewN | apply Kd.R_drew)); exact Kd.R_mono (Kd.R_far (p := ⟨gb449, 2, none⟩) (Kd.R_far (p := ⟨gb449, 1, none⟩) (Kd.R_far (p := ⟨gb449, 0, none⟩) (Kd.R_types HO447.out BK449.out (by decide)) (fun _ hk => hk.2) (.string t443)) (fun _ hk => hk.2) (.int .i64 t444)) (fun _ hk => hk.2) (.slice Ao52 t445.length co52)) (fun _ hk => ⟨hk.1.1.2, hk.1.2⟩)⟩, ⟨kf1 BK425 NB425_449⟩, ⟨kf1 BK426 NB426_449⟩, ⟨kf1 BK435 NB435_449⟩, ⟨kf1 BK442 NB442_449⟩, ⟨by (with_reducible repeat (first | refine blk_drewN ?_ _ | refine blk_drew ?_ | refine blk_alloc ?_ _)); refine blk_put (cs := #[.string t443, .int .i64 t444, .slice none 0 0]) ?_ 2 _ rfl; (with_reducible repeat (first | refine blk_drewN ?_ _ | refine blk_drew ?_ | refine blk_alloc ?_ _)); refine blk_put (cs := #[.string t443, .int .i64 0, .slice none 0 0]) ?_ 1 _ rfl; (with_reducible repeat (first | refine blk_drewN ?_ _ | refine blk_drew ?_ | refine blk_alloc ?_ _)); refine blk_put (cs := #[.string (⟨#[]⟩ : ByteArray), .int .i64 0, .slice none 0 0]) ?_ 0 _ rfl; (with_reducible repeat (first | refine blk_drewN ?_ _ | refine blk_drew ?_ | refine blk_alloc ?_ _)); exact BK449.out⟩, ⟨lb5 HB GE425 GE426 GE435 GE442 GE449⟩⟩
      case rest =>
       clear HC40
       try clear c1; try clear c2; try clear p2; try clear c3; try clear c4; try clear c5; try clear c6; try clear p6; try clear c8; try clear c10; try clear c17; try clear c21; try clear c22; try clear c24; try clear c25; try clear c27; try clear c30; try clear c31; try clear c32; try clear c35; try clear c35b0; try clear c35b1; try clear c36; try clear c37; try clear c37b0; try clear c37b1; try clear c38; try clear c38b0; try clear c38b1; try clear c41; try clear c42; try clear c43; try clear c47; try clear c48; try clear c49; try clear c50; try clear c53; try clear c53b0; try clear c54; try clear c54b0; try clear c54b1; try clear c56; try clear c57; try clear c58; try clear c59; try clear c61; try clear c62; try clear c63; try clear p64; try clear hcz18_0; try clear hcz18_1; try clear hcz18_2; try clear hcz19_0; try clear hcz21_0; try clear hcz21_1; try clear hcz21_2; try clear hcz26_0; try clear hcz26_1; try clear hcz26_2; try clear hcz33_0; try clear hcz33_1; try clear hcz33_2; try clear hcz44_0; try clear hcz44_1; try clear hcz44_2; try clear hcz51_0; try clear hcz51_1; try clear hcz51_2; try clear hcz60_0; try clear hcz60_1; try clear hcz60_2; try clear hcz64_0; try clear hcz64_1; try clear hcz64_2; try clear hfz18_0; try clear hfz18_1; try clear hfz18_2; try clear hfz19_0; try clear hfz21_0; try clear hfz21_1; try clear hfz21_2; try clear hfz26_0; try clear hfz26_1; try clear hfz26_2; try clear hfz33_0; try clear hfz33_1; try clear hfz33_2; try clear hfz44_0; try clear hfz44_1; try clear hfz44_2; try clear hfz51_0; try clear hfz51_1; try clear hfz51_2; try clear hfz60_0; try clear hfz60_1; try clear hfz60_2; try clear hfz64_0; try clear hfz64_1; try clear hfz64_2; try clear p2
       obtain ⟨kq, x84_39, rfl, HA, HJ39, HO_436002, HO_443002, HO_450002, BK425, BK426, BK435, BK442, BK449, HB⟩ := hcut
       cases kq with
       | zero => exact absurd HA.out (by simp [crossbarlaw28_PrepaidDeposits.j1])
       | succ kj39 =>
        have H := HA.out
        clear HA
        simp only [crossbarlaw28_PrepaidDeposits.j1] at H
        by_cases c66 : x84_39 = true
        ·subst c66
         have H1 : (some false) = some r := by rw [if_pos rfl] at H; exact H
         clear H
         have H := H1
         clear H1
         exact absurd ((Option.some.inj H).trans HT_TRUE.out) (by simp)
        ·replace c66 := Bool.eq_false_iff.mpr c66
         subst c66
         have H1 : ((prepaid_Reserve.f a0_0 a0_1 l0_2 l1_0 a2 a3).bind fun bt451 => (if bt451.2.2.2.2 = 280 then (crossbarlaw28_PrepaidDeposits.j2 kj39 a2 a3 (decide (a3 ≥ 1099511627776)) a0_0 a0_1 l0_2 l1_0 t436 t437 t438) else (crossbarlaw28_PrepaidDeposits.j2 kj39 a2 a3 true a0_0 a0_1 l0_2 l1_0 t436 t437 t438))) = some r := by rw [if_neg (show ¬ (false = true) by decide)] at H; exact H
         clear H
         have H := H1
         clear H1
         replace H := Option.bind_eq_some_iff.mp H
         obtain ⟨⟨t451, t452, t453, t456, t457⟩, A670, H⟩ := H
         replace H : (if t457 = 280 then (crossbarlaw28_PrepaidDeposits.j2 kj39 a2 a3 (decide (a3 ≥ 1099511627776)) a0_0 a0_1 l0_2 l1_0 t436 t437 t438) else (crossbarlaw28_PrepaidDeposits.j2 kj39 a2 a3 true a0_0 a0_1 l0_2 l1_0 t436 t437 t438)) = some r := H
         have A67 := Aside0.mk A670
         clear A670
         have HC68 := Aside0.mk H
         clear H
         have hnb69 := NB425_426.out
         have hnc69 := NB426_425.out
         have hnb70 := NB425_435.out
         have hnc70 := NB435_425.out
         have hnb71 := NB425_442.out
         have hnc71 := NB442_425.out
         have hnb72 := NB425_449.out
         have hnc72 := NB449_425.out
         have hcz73_0 := bc BK425 0
         have hcz73_1 := bc BK425 1
         have hcz73_2 := bc BK425 2
         have hfz73_0 := blk_frozen BK425.out 0
         have hfz73_1 := blk_frozen BK425.out 1
         have hfz73_2 := blk_frozen BK425.out 2
         have hnb74 := NB426_435.out
         have hnc74 := NB435_426.out
         have hnb75 := NB426_442.out
         have hnc75 := NB442_426.out
         have hnb76 := NB426_449.out
         have hnc76 := NB449_426.out
         have hcz77_0 := bc BK426 0
         have hfz77_0 := blk_frozen BK426.out 0
         go_upto_region 13 with (first | ((with_reducible refine gate_callee (f := 14) rfl ?_); refine goesL_ (some 90) rfl rfl Tryd.func14 (by kernel_rfl) rfl #[.agg #[.string a0_0, .int .i64 a0_1, .slice A0_2 l0_2.length c0_2], .agg #[.slice A1_0 l1_0.length c1_0], .int .i64 a2, .int .i64 a3] rfl (by (try simp only [List.map_toArray, List.map_cons, List.map_nil]); first | done | rfl | (simp only [List.length_drop, List.length_take]; rfl)) ?_; (with_reducible refine (prepaid_Reserve.calls a0_0 a0_1 _ _ l0_2 _ _ l1_0 a2 a3 t451 t452 t453 t456 t457 _ ?side1 ?side2 ?side3 ?side4 A67.out).mono ?_); (case side1 => repeat (first | exact (Kd.C_below HR0_2.out HB.out) | (with_reducible refine Kd.C_alloc ?_ _) | (with_reducible refine Kd.C_drewN ?_ _) | (with_reducible refine Kd.C_drew ?_))); (case side2 => exact HC0_2.out); (case side3 => repeat (first | exact (Kd.C_below HR1_0.out HB.out) | (with_reducible refine Kd.C_alloc ?_ _) | (with_reducible refine Kd.C_drewN ?_ _) | (with_reducible refine Kd.C_drew ?_))); (case side4 => exact HC1_0.out); rintro e w78 ⟨v454, rfl, ho0, hb⟩; refine ⟨_, rfl, ?_⟩; have n0_ := Aside0.mk (Kd.R_elder' (rk HO_436002) (Kd.R_base ho0) hb); have n1_ := Aside0.mk (Kd.R_elder' (rk HO_443002) (Kd.R_base ho0) hb); have n2_ := Aside0.mk (Kd.R_elder' (rk HO_450002) (Kd.R_base ho0) hb); have n3_ := Aside0.mk (Kd.R_lower (Kd.R_new' (Kd.R_new' (Kd.R_new' ho0 (Kd.R_lt (rk HO_436002))) (Kd.R_lt (rk HO_443002))) (Kd.R_lt (rk HO_450002))) (below_size (lb5 HB GE425 GE426 GE435 GE442 GE449))); have n4_ := kl BK425 hb; have n5_ := kl BK426 hb; have n6_ := kl BK435 hb; have n7_ := kl BK442 hb; have n8_ := kl BK449 hb; have n9_ := ls5 HB GE425 GE426 GE435 GE442 GE449 hb; clear HO_436002; clear HO_443002; clear HO_450002; clear BK425; clear BK426; clear BK435; clear BK442; clear BK449; clear HB; have HO_436002 := n0_; have HO_443002 := n1_; have HO_450002 := n2_; have HO455 := n3_; have BK425 := n4_; have BK426 := n5_; have BK435 := n6_; have BK442 := n7_; have BK449 := n8_; have HB := n9_; clear n0_ n1_ n2_ n3_ n4_ n5_ n6_ n7_ n8_ n9_; (try clear hb); (try clear hb2); (try clear hk); (try clear hi); (try clear ho0)) | ((with_reducible refine gate_dst (N := 19) rfl ?_); refine box_event ?hg (N := 19) ?hd (cs := #[.string (⟨#[]⟩ : ByteArray), .int .i64 0, .slice none 0 0]) (t := 31) ?hr ?_; (case hd => rfl); (case hg => rfl); (case hr => first | (go_simp; done) | (go_simp; rfl)); intro gb458 hg w79 hbox hb; have n0_ := Aside0.mk (Kd.R_below (rk HO_436002) hb); have n1_ := Aside0.mk (Kd.R_below (rk HO_443002) hb); have n2_ := Aside0.mk (Kd.R_below (rk HO_450002) hb); have n3_ := Aside0.mk (Kd.R_below (rk HO455) hb); have n4_ := kl BK425 hb; have n5_ := kl BK426 hb; have n6_ := kl BK435 hb; have n7_ := kl BK442 hb; have n8_ := kl BK449 hb; have n9_ := ls5 HB GE425 GE426 GE435 GE442 GE449 hb; have n10_ := Aside0.mk (hbox); have n11_ := Aside0.mk ((by rw [hg]; exact (below_size (lb5 HB GE425 GE426 GE435 GE442 GE449)) : w.heap.size ≤ gb458)); have n12_ := Aside0.mk ((by rw [hg]; exact (below_size (lb5 HB GE425 GE426 GE435 GE442 GE449)) : w.heap.size ≤ gb458)); have n13_ := kn BK425 hg; have n14_ := km BK425 hg; have n15_ := kn BK426 hg; have n16_ := km BK426 hg; have n17_ := kn BK435 hg; have n18_ := km BK435 hg; have n19_ := kn BK442 hg; have n20_ := km BK442 hg; have n21_ := kn BK449 hg; have n22_ := km BK449 hg; clear HO_436002; clear HO_443002; clear HO_450002; clear HO455; clear BK425; clear BK426; clear BK435; clear BK442; clear BK449; clear HB; have HO_436002 := n0_; have HO_443002 := n1_; have HO_450002 := n2_; have HO455 := n3_; have BK425 := n4_; have BK426 := n5_; have BK435 := n6_; have BK442 := n7_; have BK449 := n8_; have HB := n9_; have BK458 := n10_; have GW458 := n11_; have GE458 := n12_; have NB425_458 := n13_; have NB458_425 := n14_; have NB426_458 := n15_; have NB458_426 := n16_; have NB435_458 := n17_; have NB458_435 := n18_; have NB442_458 := n19_; have NB458_442 := n20_; have NB449_458 := n21_; have NB458_449 := n22_; clear n0_ n1_ n2_ n3_ n4_ n5_ n6_ n7_ n8_ n9_ n10_ n11_ n12_ n13_ n14_ n15_ n16_ n17_ n18_ n19_ n20_ n21_ n22_; clear hb hbox hg; have hnb80 := NB458_425.out; have hnc80 := NB425_458.out; have hnb81 := NB458_426.out; have hnc81 := NB426_458.out; have hnb82 := NB458_435.out; have hnc82 := NB435_458.out; have hnb83 := NB458_442.out; have hnc83 := NB442_458.out; have hnb84 := NB458_449.out; have hnc84 := NB449_458.out; have hcz85_0 := bc BK458 0; have hcz85_1 := bc BK458 1; have hcz85_2 := bc BK458 2; have hfz85_0 := blk_frozen BK458.out 0; have hfz85_1 := blk_frozen BK458.out 1; have hfz85_2 := blk_frozen BK458.out 2; obtain ⟨Ao86, co86, eo86⟩ := Kd.R_slice HO455.out; subst eo86))
         (try simp only [Act.put, List.setIfInBounds_toArray, List.set_cons_zero, List.set_cons_succ])
         go_cut [99] (fun v99 wc => ∃ (kq : Nat) (x99_67 : Bool), v99 = .bool x99_67 ∧ Aside0 (crossbarlaw28_PrepaidDeposits.j2 kq a2 a3 x99_67 a0_0 a0_1 l0_2 l1_0 t436 t437 t438 = some r) ∧ Aside0 (kq ≤ kj39) ∧ Aside0 (Kd.R k54 54 wc w.heap.size (fun k_ => some k_ ≠ ((.slice Ao34 t438.length co34) : Value).ownBlock ∧ some k_ ≠ ((.slice Ao52 t445.length co52) : Value).ownBlock ∧ some k_ ≠ ((.slice Ao86 t453.length co86) : Value).ownBlock) (.slice Ao27 t431.length co27) t431) ∧ Aside0 (Kd.R k54 54 wc w.heap.size (fun k_ => some k_ ≠ ((.slice Ao27 t431.length co27) : Value).ownBlock ∧ some k_ ≠ ((.slice Ao52 t445.length co52) : Value).ownBlock ∧ some k_ ≠ ((.slice Ao86 t453.length co86) : Value).ownBlock) (.slice Ao34 t438.length co34) t438) ∧ Aside0 (Kd.R k54 54 wc w.heap.size (fun k_ => some k_ ≠ ((.slice Ao27 t431.length co27) : Value).ownBlock ∧ some k_ ≠ ((.slice Ao34 t438.length co34) : Value).ownBlock ∧ some k_ ≠ ((.slice Ao86 t453.length co86) : Value).ownBlock) (.slice Ao52 t445.length co52) t445) ∧ Aside0 (Kd.R k54 54 wc w.heap.size (fun k_ => some k_ ≠ ((.slice Ao27 t431.length co27) : Value).ownBlock ∧ some k_ ≠ ((.slice Ao34 t438.length co34) : Value).ownBlock ∧ some k_ ≠ ((.slice Ao52 t445.length co52) : Value).ownBlock) (.slice Ao86 t453.length co86) t453) ∧ Aside0 (wc.heap[gb425]? = some (.cells #[.string a0_0, .int .i64 a0_1, (.slice A0_2 l0_2.length c0_2)] 31 (0, 0))) ∧ Aside0 (wc.heap[gb426]? = some (.cells #[(.slice A1_0 l1_0.length c1_0)] 24 (0, 0))) ∧ Aside0 (wc.heap[gb435]? = some (.cells #[.string t429, .int .i64 t430, (.slice Ao27 t431.length co27)] 31 (0, 0))) ∧ Aside0 (wc.heap[gb442]? = some (.cells #[.string t436, .int .i64 t437, (.slice Ao34 t438.length co34)] 31 (0, 0))) ∧ Aside0 (wc.heap[gb449]? = some (.cells #[.string t443, .int .i64 t444, (.slice Ao52 t445.length co52)] 31 (0, 0))) ∧ Aside0 (wc.heap[gb458]? = some (.cells #[.string t451, .int .i64 t452, (.slice Ao86 t453.length co86)] 31 (0, 0))) ∧ Aside0 (Below w.heap.size w wc))
         case first =>
          have H := HC68.out
          clear HC68
          by_cases c87 : t457 = 280
          ·rw [if_pos c87] at H
           have c87b0 : (t457 == 280) = true := beq_iff_eq.mpr c87
           have c87b1 : (t457 != 280) = false := bne_eq_false_iff_eq.mpr c87
           clear c87
           (first | rw [c87b0] | (simp only [i64_w, i32_w]; rw [c87b0]) | skip)
           have H' := Aside0.mk H
           clear H
           go_wp2
           go_meet
           case rel => exact ⟨_, (decide (a3 ≥ 1099511627776)), (by first | rfl | (simp; done) | (simp [*]; done)), H', ⟨by have := HJ12.out; have := HJ39.out; first | omega | exact Nat.le_refl _⟩, ⟨by (with_reducible repeat (first | apply Kd.R_alloc | apply Kd.R_drewN | apply Kd.R_drew)); exact Kd.R_mono (Kd.R_far (p := ⟨gb458, 2, none⟩) (Kd.R_far (p := ⟨gb458, 1, none⟩) (Kd.R_far (p := ⟨gb458, 0, none⟩) (Kd.R_types HO_436002.out BK458.out (by decide)) (fun _ hk => hk.2) (.string t451)) (fun _ hk => hk.2) (.int .i64 t452)) (fun _ hk => hk.2) (.slice Ao86 t453.length co86)) (fun _ hk => ⟨hk.1.1.1, ⟨hk.1.1.2, hk.1.2⟩⟩)⟩, ⟨by (with_reducible repeat (first | apply Kd.R_alloc | apply Kd.R_drewN | apply Kd.R_drew)); exact Kd.R_mono (Kd.R_far (p := ⟨gb458, 2, none⟩) (Kd.R_far (p := ⟨gb458, 1, none⟩) (Kd.R_far (p := ⟨gb458, 0, none⟩) (Kd.R_types HO_443002.out BK458.out (by decide)) (fun _ hk => hk.2) (.string t451)) (fun _ hk => hk.2) (.int .i64 t452)) (fun _ hk => hk.2) (.slice Ao86 t453.length co86)) (fun _ hk => ⟨hk.1.1.1, ⟨hk.1.1.2, hk.1.2⟩⟩)⟩, ⟨by (with_reducible repeat (first | apply Kd.R_alloc | apply Kd.R_drewN | apply Kd.R_drew)); exact Kd.R_mono (Kd.R_far (p := ⟨gb458, 2, none⟩) (Kd.R_far (p := ⟨gb458, 1, none⟩) (Kd.R_far (p := ⟨gb458, 0, none⟩) (Kd.R_types HO_450002.out BK458.out (by decide)) (fun _ hk => hk.2) (.string t451)) (fun _ hk => hk.2) (.int .i64 t452)) (fun _ hk => hk.2) (.slice Ao86 t453.length co86)) (fun _ hk => ⟨hk.1.1.1, ⟨hk.1.1.2, hk.1.2⟩⟩)⟩, ⟨by (with_reducible repeat (first | apply Kd.R_alloc | apply Kd.R_drewN | apply Kd.R_drew)); exact Kd.R_mono (Kd.R_far (p := ⟨gb458, 2, none⟩) (Kd.R_far (p := ⟨gb458, 1, none⟩) (Kd.R_far (p := ⟨gb458, 0, none⟩) (Kd.R_types HO455.out BK458.out (by decide)) (fun _ hk => hk.2) (.string t451)) (fun _ hk => hk.2) (.int .i64 t452)) (fun _ hk => hk.2) (.slice Ao86 t453.length co86)) (fun _ hk => ⟨hk.1.1.1.2, ⟨hk.1.1.2, hk.1.2⟩⟩)⟩, ⟨kf1 BK425 NB425_458⟩, ⟨kf1 BK426 NB426_458⟩, ⟨kf1 BK435 NB435_458⟩, ⟨kf1 BK442 NB442_458⟩, ⟨kf1 BK449 NB449_458⟩, ⟨by (with_reducible repeat (first | refine blk_drewN ?_ _ | refine blk_drew ?_ | refine blk_alloc ?_ _)); refine blk_put (cs := #[.string t451, .int .i64 t452, .slice none 0 0]) ?_ 2 _ rfl; (with_reducible repeat (first | refine blk_drewN ?_ _ | refine blk_drew ?_ | refine blk_alloc ?_ _)); refine blk_put (cs := #[.string t451, .int .i64 0, .slice none 0 0]) ?_ 1 _ rfl; (with_reducible repeat (first | refine blk_drewN ?_ _ | refine blk_drew ?_ | refine blk_alloc ?_ _)); refine blk_put (cs := #[.string (⟨#[]⟩ : ByteArray), .int .i64 0, .slice none 0 0]) ?_ 0 _ rfl; (with_reducible repeat (first | refine blk_drewN ?_ _ | refine blk_drew ?_ | refine blk_alloc ?_ _)); exact BK458.out⟩, ⟨lb6 HB GE425 GE426 GE435 GE442 GE449 GE458⟩⟩
          ·rw [if_neg c87] at H
           have c87b0 : (t457 == 280) = false := beq_eq_false_iff_ne.mpr c87
           have c87b1 : (t457 != 280) = true := bne_iff_ne.mpr c87
           (first | rw [c87b0] | (simp only [i64_w, i32_w]; rw [c87b0]) | skip)
           have H' := Aside0.mk H
           clear H
           go_wp2
           go_meet
           case rel => exact ⟨_, (true), (by first | rfl | (simp; done) | (simp [*]; done)), H', ⟨by have := HJ12.out; have := HJ39.out; first | omega | exact Nat.le_refl _⟩, ⟨by (with_reducible repeat (first | apply Kd.R_alloc | apply Kd.R_drewN | apply Kd.R_drew)); exact Kd.R_mono (Kd.R_far (p := ⟨gb458, 2, none⟩) (Kd.R_far (p := ⟨gb458, 1, none⟩) (Kd.R_far (p := ⟨gb458, 0, none⟩) (Kd.R_types HO_436002.out BK458.out (by decide)) (fun _ hk => hk.2) (.string t451)) (fun _ hk => hk.2) (.int .i64 t452)) (fun _ hk => hk.2) (.slice Ao86 t453.length co86)) (fun _ hk => ⟨hk.1.1.1, ⟨hk.1.1.2, hk.1.2⟩⟩)⟩, ⟨by (with_reducible repeat (first | apply Kd.R_alloc | apply Kd.R_drewN | apply Kd.R_drew)); exact Kd.R_mono (Kd.R_far (p := ⟨gb458, 2, none⟩) (Kd.R_far (p := ⟨gb458, 1, none⟩) (Kd.R_far (p := ⟨gb458, 0, none⟩) (Kd.R_types HO_443002.out BK458.out (by decide)) (fun _ hk => hk.2) (.string t451)) (fun _ hk => hk.2) (.int .i64 t452)) (fun _ hk => hk.2) (.slice Ao86 t453.length co86)) (fun _ hk => ⟨hk.1.1.1, ⟨hk.1.1.2, hk.1.2⟩⟩)⟩, ⟨by (with_reducible repeat (first | apply Kd.R_alloc | apply Kd.R_drewN | apply Kd.R_drew)); exact Kd.R_mono (Kd.R_far (p := ⟨gb458, 2, none⟩) (Kd.R_far (p := ⟨gb458, 1, none⟩) (Kd.R_far (p := ⟨gb458, 0, none⟩) (Kd.R_types HO_450002.out BK458.out (by decide)) (fun _ hk => hk.2) (.string t451)) (fun _ hk => hk.2) (.int .i64 t452)) (fun _ hk => hk.2) (.slice Ao86 t453.length co86)) (fun _ hk => ⟨hk.1.1.1, ⟨hk.1.1.2, hk.1.2⟩⟩)⟩, ⟨by (with_reducible repeat (first | apply Kd.R_alloc | apply Kd.R_drewN | apply Kd.R_drew)); exact Kd.R_mono (Kd.R_far (p := ⟨gb458, 2, none⟩) (Kd.R_far (p := ⟨gb458, 1, none⟩) (Kd.R_far (p := ⟨gb458, 0, none⟩) (Kd.R_types HO455.out BK458.out (by decide)) (fun _ hk => hk.2) (.string t451)) (fun _ hk => hk.2) (.int .i64 t452)) (fun _ hk => hk.2) (.slice Ao86 t453.length co86)) (fun _ hk => ⟨hk.1.1.1.2, ⟨hk.1.1.2, hk.1.2⟩⟩)⟩, ⟨kf1 BK425 NB425_458⟩, ⟨kf1 BK426 NB426_458⟩, ⟨kf1 BK435 NB435_458⟩, ⟨kf1 BK442 NB442_458⟩, ⟨kf1 BK449 NB449_458⟩, ⟨by (with_reducible repeat (first | refine blk_drewN ?_ _ | refine blk_drew ?_ | refine blk_alloc ?_ _)); refine blk_put (cs := #[.string t451, .int .i64 t452, .slice none 0 0]) ?_ 2 _ rfl; (with_reducible repeat (first | refine blk_drewN ?_ _ | refine blk_drew ?_ | refine blk_alloc ?_ _)); refine blk_put (cs := #[.string t451, .int .i64 0, .slice none 0 0]) ?_ 1 _ rfl; (with_reducible repeat (first | refine blk_drewN ?_ _ | refine blk_drew ?_ | refine blk_alloc ?_ _)); refine blk_put (cs := #[.string (⟨#[]⟩ : ByteArray), .int .i64 0, .slice none 0 0]) ?_ 0 _ rfl; (with_reducible repeat (first | refine blk_drewN ?_ _ | refine blk_drew ?_ | refine blk_alloc ?_ _)); exact BK458.out⟩, ⟨lb6 HB GE425 GE426 GE435 GE442 GE449 GE458⟩⟩
         case rest =>
          clear HC68
          try clear c1; try clear c2; try clear p2; try clear c3; try clear c4; try clear c5; try clear c6; try clear p6; try clear c7; try clear c8; try clear c10; try clear c14; try clear c17; try clear c21; try clear c22; try clear c24; try clear c25; try clear c27; try clear c30; try clear c31; try clear c32; try clear c35; try clear c35b0; try clear c35b1; try clear c36; try clear c37; try clear c37b0; try clear c37b1; try clear c38; try clear c38b0; try clear c38b1; try clear c41; try clear c42; try clear c43; try clear c47; try clear c48; try clear c49; try clear c50; try clear c53; try clear c53b0; try clear c54; try clear c54b0; try clear c54b1; try clear c56; try clear c57; try clear c58; try clear c59; try clear c61; try clear c62; try clear c63; try clear p64; try clear c66; try clear c69; try clear c70; try clear c71; try clear c72; try clear c74; try clear c75; try clear c76; try clear c80; try clear c81; try clear c82; try clear c83; try clear c84; try clear c87; try clear c87b0; try clear c87b1; try clear hcz18_0; try clear hcz18_1; try clear hcz18_2; try clear hcz19_0; try clear hcz21_0; try clear hcz21_1; try clear hcz21_2; try clear hcz26_0; try clear hcz26_1; try clear hcz26_2; try clear hcz33_0; try clear hcz33_1; try clear hcz33_2; try clear hcz44_0; try clear hcz44_1; try clear hcz44_2; try clear hcz51_0; try clear hcz51_1; try clear hcz51_2; try clear hcz60_0; try clear hcz60_1; try clear hcz60_2; try clear hcz64_0; try clear hcz64_1; try clear hcz64_2; try clear hcz73_0; try clear hcz73_1; try clear hcz73_2; try clear hcz77_0; try clear hcz85_0; try clear hcz85_1; try clear hcz85_2; try clear hfz18_0; try clear hfz18_1; try clear hfz18_2; try clear hfz19_0; try clear hfz21_0; try clear hfz21_1; try clear hfz21_2; try clear hfz26_0; try clear hfz26_1; try clear hfz26_2; try clear hfz33_0; try clear hfz33_1; try clear hfz33_2; try clear hfz44_0; try clear hfz44_1; try clear hfz44_2; try clear hfz51_0; try clear hfz51_1; try clear hfz51_2; try clear hfz60_0; try clear hfz60_1; try clear hfz60_2; try clear hfz64_0; try clear hfz64_1; try clear hfz64_2; try clear hfz73_0; try clear hfz73_1; try clear hfz73_2; try clear hfz77_0; try clear hfz85_0; try clear hfz85_1; try clear hfz85_2; try clear p2; try clear p6; try clear p64
          obtain ⟨kq, x99_67, rfl, HA, HJ67, HO_436002, HO_443002, HO_450002, HO_459002, BK425, BK426, BK435, BK442, BK449, BK458, HB⟩ := hcut
          cases kq with
          | zero => exact absurd HA.out (by simp [crossbarlaw28_PrepaidDeposits.j2])
          | succ kj67 =>
           have H := HA.out
           clear HA
           simp only [crossbarlaw28_PrepaidDeposits.j2] at H
           by_cases c88 : x99_67 = true
           ·subst c88
            have H1 : (some true) = some r := by rw [if_pos rfl] at H; exact H
            clear H
            have H := H1
            clear H1
            obtain rfl := Option.some.inj H
            go_wp2
            go_ret
            exact ⟨by first | rfl | (simp [errW_none, errW_some] <;> rfl) | (simp [*, errW_none, errW_some] <;> rfl), lb6 HB GE425 GE426 GE435 GE442 GE449 GE458⟩
           ·replace c88 := Bool.eq_false_iff.mpr c88
            subst c88
            have H1 : ((crossbarref28_Find.f kj67 a0_0 a0_1 l0_2 a2).bind fun t459 => (if t459 ≥ 0 then (if 0 ≤ t459 then (if t459 < (l0_2.length : Int) then (crossbarlaw28_PrepaidDeposits.j3 kj67 a2 a3 ((rd_T54 l0_2 t459).f2) l1_0 t436 t437 t438) else (none)) else (none)) else (crossbarlaw28_PrepaidDeposits.j3 kj67 a2 a3 a3 l1_0 t436 t437 t438))) = some r := by rw [if_neg (show ¬ (false = true) by decide)] at H; exact H
            clear H
            have H := H1
            clear H1
            replace H := Option.bind_eq_some_iff.mp H
            obtain ⟨t459, A890, H⟩ := H
            replace H : (if t459 ≥ 0 then (if 0 ≤ t459 then (if t459 < (l0_2.length : Int) then (crossbarlaw28_PrepaidDeposits.j3 kj67 a2 a3 ((rd_T54 l0_2 t459).f2) l1_0 t436 t437 t438) else (none)) else (none)) else (crossbarlaw28_PrepaidDeposits.j3 kj67 a2 a3 a3 l1_0 t436 t437 t438)) = some r := H
            have A89 := Aside0.mk A890
            clear A890
            have HC90 := Aside0.mk H
            clear H
            have hnb91 := NB425_426.out
            have hnc91 := NB426_425.out
            have hnb92 := NB425_435.out
            have hnc92 := NB435_425.out
            have hnb93 := NB425_442.out
            have hnc93 := NB442_425.out
            have hnb94 := NB425_449.out
            have hnc94 := NB449_425.out
            have hnb95 := NB425_458.out
            have hnc95 := NB458_425.out
            have hcz96_0 := bc BK425 0
            have hcz96_1 := bc BK425 1
            have hcz96_2 := bc BK425 2
            have hfz96_0 := blk_frozen BK425.out 0
            have hfz96_1 := blk_frozen BK425.out 1
            have hfz96_2 := blk_frozen BK425.out 2
            go_upto_if 105 with (first | ((with_reducible refine gate_callee (f := 25) rfl ?_); refine goesL_ (some 103) rfl rfl Tryd.func25 (by kernel_rfl) rfl #[.agg #[.string a0_0, .int .i64 a0_1, .slice A0_2 l0_2.length c0_2], .int .i64 a2] rfl (by (try simp only [List.map_toArray, List.map_cons, List.map_nil]); first | done | rfl | (simp only [List.length_drop, List.length_take]; rfl)) ?_; (with_reducible refine (crossbarref28_Find.calls kj67 a0_0 a0_1 _ _ l0_2 a2 t459 _ ?side1 ?side2 A89.out).mono ?_); (case side1 => repeat (first | exact (Kd.C_below HR0_2.out HB.out) | (with_reducible refine Kd.C_alloc ?_ _) | (with_reducible refine Kd.C_drewN ?_ _) | (with_reducible refine Kd.C_drew ?_))); (case side2 => exact HC0_2.out); rintro e w97 ⟨rfl, hb⟩; refine ⟨_, rfl, ?_⟩; have n0_ := Aside0.mk (Kd.R_below (rk HO_436002) hb); have n1_ := Aside0.mk (Kd.R_below (rk HO_443002) hb); have n2_ := Aside0.mk (Kd.R_below (rk HO_450002) hb); have n3_ := Aside0.mk (Kd.R_below (rk HO_459002) hb); have n4_ := kl BK425 hb; have n5_ := kl BK426 hb; have n6_ := kl BK435 hb; have n7_ := kl BK442 hb; have n8_ := kl BK449 hb; have n9_ := kl BK458 hb; have n10_ := ls6 HB GE425 GE426 GE435 GE442 GE449 GE458 hb; clear HO_436002; clear HO_443002; clear HO_450002; clear HO_459002; clear BK425; clear BK426; clear BK435; clear BK442; clear BK449; clear BK458; clear HB; have HO_436002 := n0_; have HO_443002 := n1_; have HO_450002 := n2_; have HO_459002 := n3_; have BK425 := n4_; have BK426 := n5_; have BK435 := n6_; have BK442 := n7_; have BK449 := n8_; have BK458 := n9_; have HB := n10_; clear n0_ n1_ n2_ n3_ n4_ n5_ n6_ n7_ n8_ n9_ n10_; (try clear hb); (try clear hb2); (try clear hk); (try clear hi)))
            (try simp only [Act.put, List.setIfInBounds_toArray, List.set_cons_zero, List.set_cons_succ])
            go_cut [22] (fun v22 wc => ∃ (kq : Nat) (x22_89 : Int), v22 = .int .i64 x22_89 ∧ Aside0 (crossbarlaw28_PrepaidDeposits.j3 kq a2 a3 x22_89 l1_0 t436 t437 t438 = some r) ∧ Aside0 (kq ≤ kj67) ∧ Aside0 (Kd.R k54 54 wc w.heap.size (fun k_ => some k_ ≠ ((.slice Ao34 t438.length co34) : Value).ownBlock ∧ some k_ ≠ ((.slice Ao52 t445.length co52) : Value).ownBlock ∧ some k_ ≠ ((.slice Ao86 t453.length co86) : Value).ownBlock) (.slice Ao27 t431.length co27) t431) ∧ Aside0 (Kd.R k54 54 wc w.heap.size (fun k_ => some k_ ≠ ((.slice Ao27 t431.length co27) : Value).ownBlock ∧ some k_ ≠ ((.slice Ao52 t445.length co52) : Value).ownBlock ∧ some k_ ≠ ((.slice Ao86 t453.length co86) : Value).ownBlock) (.slice Ao34 t438.length co34) t438) ∧ Aside0 (Kd.R k54 54 wc w.heap.size (fun k_ => some k_ ≠ ((.slice Ao27 t431.length co27) : Value).ownBlock ∧ some k_ ≠ ((.slice Ao34 t438.length co34) : Value).ownBlock ∧ some k_ ≠ ((.slice Ao86 t453.length co86) : Value).ownBlock) (.slice Ao52 t445.length co52) t445) ∧ Aside0 (Kd.R k54 54 wc w.heap.size (fun k_ => some k_ ≠ ((.slice Ao27 t431.length co27) : Value).ownBlock ∧ some k_ ≠ ((.slice Ao34 t438.length co34) : Value).ownBlock ∧ some k_ ≠ ((.slice Ao52 t445.length co52) : Value).ownBlock) (.slice Ao86 t453.length co86) t453) ∧ Aside0 (wc.heap[gb425]? = some (.cells #[.string a0_0, .int .i64 a0_1, (.slice A0_2 l0_2.length c0_2)] 31 (0, 0))) ∧ Aside0 (wc.heap[gb426]? = some (.cells #[(.slice A1_0 l1_0.length c1_0)] 24 (0, 0))) ∧ Aside0 (wc.heap[gb435]? = some (.cells #[.string t429, .int .i64 t430, (.slice Ao27 t431.length co27)] 31 (0, 0))) ∧ Aside0 (wc.heap[gb442]? = some (.cells #[.string t436, .int .i64 t437, (.slice Ao34 t438.length co34)] 31 (0, 0))) ∧ Aside0 (wc.heap[gb449]? = some (.cells #[.string t443, .int .i64 t444, (.slice Ao52 t445.length co52)] 31 (0, 0))) ∧ Aside0 (wc.heap[gb458]? = some (.cells #[.string t451, .int .i64 t452, (.slice Ao86 t453.length co86)] 31 (0, 0))) ∧ Aside0 (Below w.heap.size w wc))
            case first =>
             have H := HC90.out
             clear HC90
             by_cases c98 : t459 ≥ 0
             ·rw [if_pos c98] at H
              have c98b0 : decide (0 ≤ t459) = true := decide_eq_true c98
              clear c98
              (first | rw [c98b0] | (simp only [i64_w, i32_w]; rw [c98b0]) | skip)
              by_cases c99 : 0 ≤ t459
              ·rw [if_pos c99] at H
               have c99b0 : decide (0 ≤ t459) = true := decide_eq_true c99
               clear c99
               by_cases c100 : t459 < (l0_2.length : Int)
               ·rw [if_pos c100] at H
                have c100b0 : decide (t459 < (l0_2.length : Int)) = true := decide_eq_true c100
                clear c100
                have H' := Aside0.mk H
                clear H
                have hnb101 := NB425_426.out
                have hnc101 := NB426_425.out
                have hnb102 := NB425_435.out
                have hnc102 := NB435_425.out
                have hnb103 := NB425_442.out
                have hnc103 := NB442_425.out
                have hnb104 := NB425_449.out
                have hnc104 := NB449_425.out
                have hnb105 := NB425_458.out
                have hnc105 := NB458_425.out
                have hcz106_0 := bc BK425 0
                have hcz106_1 := bc BK425 1
                have hcz106_2 := bc BK425 2
                have hfz106_0 := blk_frozen BK425.out 0
                have hfz106_1 := blk_frozen BK425.out 1
                have hfz106_2 := blk_frozen BK425.out 2
                have p460 : 0 ≤ (t459 : Int) := of_decide_eq_true (by first | (with_reducible assumption) | assumption)
                have q460 : t459 < (l0_2.length : Int) := of_decide_eq_true (by first | (with_reducible assumption) | assumption)
                obtain ⟨ad460, e460, hx460_0, hx460_1, hx460_2⟩ := at_T54 HR0_2.out t459 p460 q460
                cases e460
                replace hx460_0 := (HB.out.cell (World.block_lt_of_cell? w _ hx460_0)).trans hx460_0
                replace hx460_1 := (HB.out.cell (World.block_lt_of_cell? w _ hx460_1)).trans hx460_1
                replace hx460_2 := (HB.out.cell (World.block_lt_of_cell? w _ hx460_2)).trans hx460_2
                replace p460 := eq_true p460
                replace q460 := eq_true q460
                go_wp2
                go_meet
                case rel => exact ⟨_, ((rd_T54 l0_2 t459).f2), (by first | rfl | (simp; done) | (simp [*]; done)), H', ⟨by have := HJ12.out; have := HJ39.out; have := HJ67.out; first | omega | exact Nat.le_refl _⟩, ⟨rk HO_436002⟩, ⟨rk HO_443002⟩, ⟨rk HO_450002⟩, ⟨rk HO_459002⟩, ⟨kb BK425⟩, ⟨kb BK426⟩, ⟨kb BK435⟩, ⟨kb BK442⟩, ⟨kb BK449⟩, ⟨kb BK458⟩, ⟨lb6 HB GE425 GE426 GE435 GE442 GE449 GE458⟩⟩
               ·rw [if_neg c100] at H
                exact absurd H (by simp)
              ·rw [if_neg c99] at H
               exact absurd H (by simp)
             ·rw [if_neg c98] at H
              have c98b0 : decide (0 ≤ t459) = false := decide_eq_false c98
              clear c98
              (first | rw [c98b0] | (simp only [i64_w, i32_w]; rw [c98b0]) | skip)
              have H' := Aside0.mk H
              clear H
              go_wp2
              go_meet
              case rel => exact ⟨_, (a3), (by first | rfl | (simp; done) | (simp [*]; done)), H', ⟨by have := HJ12.out; have := HJ39.out; have := HJ67.out; first | omega | exact Nat.le_refl _⟩, ⟨rk HO_436002⟩, ⟨rk HO_443002⟩, ⟨rk HO_450002⟩, ⟨rk HO_459002⟩, ⟨kb BK425⟩, ⟨kb BK426⟩, ⟨kb BK435⟩, ⟨kb BK442⟩, ⟨kb BK449⟩, ⟨kb BK458⟩, ⟨lb6 HB GE425 GE426 GE435 GE442 GE449 GE458⟩⟩
            case rest =>
             clear HC90
             try clear c1; try clear c2; try clear p2; try clear c3; try clear c4; try clear p4; try clear q4; try clear hx4; try clear c5; try clear c6; try clear p6; try clear c7; try clear c8; try clear c9; try clear c10; try clear c14; try clear c17; try clear c21; try clear c22; try clear c24; try clear c25; try clear c27; try clear c30; try clear c31; try clear c32; try clear c35; try clear c35b0; try clear c35b1; try clear c36; try clear c37; try clear c37b0; try clear c37b1; try clear c38; try clear c38b0; try clear c38b1; try clear c41; try clear c42; try clear c43; try clear p46; try clear q46; try clear hx46; try clear c47; try clear c48; try clear c49; try clear c50; try clear c53; try clear c53b0; try clear c54; try clear c54b0; try clear c54b1; try clear c56; try clear c57; try clear c58; try clear c59; try clear c61; try clear c62; try clear c63; try clear p64; try clear c66; try clear c69; try clear c70; try clear c71; try clear c72; try clear c74; try clear c75; try clear c76; try clear c80; try clear c81; try clear c82; try clear c83; try clear c84; try clear c87; try clear c87b0; try clear c87b1; try clear c88; try clear c91; try clear c92; try clear c93; try clear c94; try clear c95; try clear c98; try clear c98b0; try clear c99; try clear c99b0; try clear c100; try clear c100b0; try clear c101; try clear c102; try clear c103; try clear c104; try clear c105; try clear hcz106_0; try clear hcz106_1; try clear hcz106_2; try clear hcz18_0; try clear hcz18_1; try clear hcz18_2; try clear hcz19_0; try clear hcz21_0; try clear hcz21_1; try clear hcz21_2; try clear hcz26_0; try clear hcz26_1; try clear hcz26_2; try clear hcz33_0; try clear hcz33_1; try clear hcz33_2; try clear hcz44_0; try clear hcz44_1; try clear hcz44_2; try clear hcz51_0; try clear hcz51_1; try clear hcz51_2; try clear hcz60_0; try clear hcz60_1; try clear hcz60_2; try clear hcz64_0; try clear hcz64_1; try clear hcz64_2; try clear hcz73_0; try clear hcz73_1; try clear hcz73_2; try clear hcz77_0; try clear hcz85_0; try clear hcz85_1; try clear hcz85_2; try clear hcz96_0; try clear hcz96_1; try clear hcz96_2; try clear hfz106_0; try clear hfz106_1; try clear hfz106_2; try clear hfz18_0; try clear hfz18_1; try clear hfz18_2; try clear hfz19_0; try clear hfz21_0; try clear hfz21_1; try clear hfz21_2; try clear hfz26_0; try clear hfz26_1; try clear hfz26_2; try clear hfz33_0; try clear hfz33_1; try clear hfz33_2; try clear hfz44_0; try clear hfz44_1; try clear hfz44_2; try clear hfz51_0; try clear hfz51_1; try clear hfz51_2; try clear hfz60_0; try clear hfz60_1; try clear hfz60_2; try clear hfz64_0; try clear hfz64_1; try clear hfz64_2; try clear hfz73_0; try clear hfz73_1; try clear hfz73_2; try clear hfz77_0; try clear hfz85_0; try clear hfz85_1; try clear hfz85_2; try clear hfz96_0; try clear hfz96_1; try clear hfz96_2; try clear hx460_0; try clear hx460_1; try clear hx460_2; try clear p2; try clear p460; try clear p6; try clear p64; try clear q460
             obtain ⟨kq, x22_89, rfl, HA, HJ89, HO_436002, HO_443002, HO_450002, HO_459002, BK425, BK426, BK435, BK442, BK449, BK458, HB⟩ := hcut
             cases kq with
             | zero => exact absurd HA.out (by simp [crossbarlaw28_PrepaidDeposits.j3])
             | succ kj89 =>
              have H := HA.out
              clear HA
              simp only [crossbarlaw28_PrepaidDeposits.j3] at H
              obtain ⟨ji107, hji107⟩ : ∃ j_ : Int, (mx x22_89 a3) = j_ := ⟨_, rfl⟩
              replace H : ((tariff_Price.f kj89 l1_0 x22_89 (wrap64 ((ji107) + 1))).bind fun bt461 => (if x22_89 ≥ 1099511627776 then (some true) else (if bt461.2 = 0 then ((prepaid_Reserve.f t436 t437 t438 l1_0 a2 a3).bind fun bt463 => (some ((bt463.2.2.2.2 == 0) == (decide (t437 ≥ bt461.1))))) else (some true)))) = some r := by first | (rw [hji107] at H; exact H) | (simp only [hji107] at H ⊢; exact H)
              have hji107_ : (if x22_89 < a3 then a3 else x22_89) = ji107 := hji107
              replace H := Option.bind_eq_some_iff.mp H
              obtain ⟨⟨t461, t462⟩, A1080, H⟩ := H
              replace H : (if x22_89 ≥ 1099511627776 then (some true) else (if t462 = 0 then ((prepaid_Reserve.f t436 t437 t438 l1_0 a2 a3).bind fun bt463 => (some ((bt463.2.2.2.2 == 0) == (decide (t437 ≥ t461))))) else (some true))) = some r := H
              have A108 := Aside0.mk A1080
              clear A1080
              by_cases c109 : x22_89 ≥ 1099511627776
              ·rw [if_pos c109] at H
               have c109b0 : decide (1099511627776 ≤ x22_89) = true := decide_eq_true c109
               clear c109
               obtain rfl := Option.some.inj H
               have hnb110 := NB426_425.out
               have hnc110 := NB425_426.out
               have hnb111 := NB426_435.out
               have hnc111 := NB435_426.out
               have hnb112 := NB426_442.out
               have hnc112 := NB442_426.out
               have hnb113 := NB426_449.out
               have hnc113 := NB449_426.out
               have hnb114 := NB426_458.out
               have hnc114 := NB458_426.out
               have hcz115_0 := bc BK426 0
               have hfz115_0 := blk_frozen BK426.out 0
               go_wp2_with (first | ((with_reducible refine gate_callee (f := 19) rfl ?_); refine goesL_ (some 119) rfl rfl Tryd.func19 (by kernel_rfl) rfl #[.agg #[.slice A1_0 l1_0.length c1_0], .int .i64 x22_89, .int .i64 (wrap64 ((ji107) + 1))] rfl (by (try simp only [List.map_toArray, List.map_cons, List.map_nil]); first | done | (simp only [hji107]; rfl) | rfl | (simp only [List.length_drop, List.length_take]; rfl)) ?_; (with_reducible refine (tariff_Price.calls kj89 _ _ l1_0 x22_89 (wrap64 ((ji107) + 1)) t461 t462 _ ?side1 ?side2 A108.out).mono ?_); (case side1 => repeat (first | exact (Kd.C_below HR1_0.out HB.out) | (with_reducible refine Kd.C_alloc ?_ _) | (with_reducible refine Kd.C_drewN ?_ _) | (with_reducible refine Kd.C_drew ?_))); (case side2 => exact HC1_0.out); rintro e w116 ⟨rfl, hb⟩; refine ⟨_, rfl, ?_⟩; have n0_ := Aside0.mk (Kd.R_below (rk HO_436002) hb); have n1_ := Aside0.mk (Kd.R_below (rk HO_443002) hb); have n2_ := Aside0.mk (Kd.R_below (rk HO_450002) hb); have n3_ := Aside0.mk (Kd.R_below (rk HO_459002) hb); have n4_ := kl BK425 hb; have n5_ := kl BK426 hb; have n6_ := kl BK435 hb; have n7_ := kl BK442 hb; have n8_ := kl BK449 hb; have n9_ := kl BK458 hb; have n10_ := ls6 HB GE425 GE426 GE435 GE442 GE449 GE458 hb; clear HO_436002; clear HO_443002; clear HO_450002; clear HO_459002; clear BK425; clear BK426; clear BK435; clear BK442; clear BK449; clear BK458; clear HB; have HO_436002 := n0_; have HO_443002 := n1_; have HO_450002 := n2_; have HO_459002 := n3_; have BK425 := n4_; have BK426 := n5_; have BK435 := n6_; have BK442 := n7_; have BK449 := n8_; have BK458 := n9_; have HB := n10_; clear n0_ n1_ n2_ n3_ n4_ n5_ n6_ n7_ n8_ n9_ n10_; (try clear hb); (try clear hb2); (try clear hk); (try clear hi)))
               go_ret
               exact ⟨by first | rfl | (simp [errW_none, errW_some] <;> rfl) | (simp only [← hji107]; first | rfl | (simp [errW_none, errW_some] <;> rfl)) | (simp [*, errW_none, errW_some] <;> rfl), lb6 HB GE425 GE426 GE435 GE442 GE449 GE458⟩
              ·rw [if_neg c109] at H
               have c109b0 : decide (1099511627776 ≤ x22_89) = false := decide_eq_false c109
               clear c109
               by_cases c117 : t462 = 0
               ·rw [if_pos c117] at H
                have c117b0 : (t462 == 0) = true := beq_iff_eq.mpr c117
                have c117b1 : (t462 != 0) = false := bne_eq_false_iff_eq.mpr c117
                clear c117
                replace H := Option.bind_eq_some_iff.mp H
                obtain ⟨⟨t463, t464, t465, t468, t469⟩, A1180, H⟩ := H
                replace H : (some ((t469 == 0) == (decide (t437 ≥ t461)))) = some r := H
                have A118 := Aside0.mk A1180
                clear A1180
                obtain rfl := Option.some.inj H
                have hnb119 := NB426_425.out
                have hnc119 := NB425_426.out
                have hnb120 := NB426_435.out
                have hnc120 := NB435_426.out
                have hnb121 := NB426_442.out
                have hnc121 := NB442_426.out
                have hnb122 := NB426_449.out
                have hnc122 := NB449_426.out
                have hnb123 := NB426_458.out
                have hnc123 := NB458_426.out
                have hcz124_0 := bc BK426 0
                have hfz124_0 := blk_frozen BK426.out 0
                go_wp2_with (first | ((with_reducible refine gate_callee (f := 19) rfl ?_); refine goesL_ (some 119) rfl rfl Tryd.func19 (by kernel_rfl) rfl #[.agg #[.slice A1_0 l1_0.length c1_0], .int .i64 x22_89, .int .i64 (wrap64 ((ji107) + 1))] rfl (by (try simp only [List.map_toArray, List.map_cons, List.map_nil]); first | done | (simp only [hji107]; rfl) | rfl | (simp only [List.length_drop, List.length_take]; rfl)) ?_; (with_reducible refine (tariff_Price.calls kj89 _ _ l1_0 x22_89 (wrap64 ((ji107) + 1)) t461 t462 _ ?side1 ?side2 A108.out).mono ?_); (case side1 => repeat (first | exact (Kd.C_below HR1_0.out HB.out) | (with_reducible refine Kd.C_alloc ?_ _) | (with_reducible refine Kd.C_drewN ?_ _) | (with_reducible refine Kd.C_drew ?_))); (case side2 => exact HC1_0.out); rintro e w125 ⟨rfl, hb⟩; refine ⟨_, rfl, ?_⟩; have n0_ := Aside0.mk (Kd.R_below (rk HO_436002) hb); have n1_ := Aside0.mk (Kd.R_below (rk HO_443002) hb); have n2_ := Aside0.mk (Kd.R_below (rk HO_450002) hb); have n3_ := Aside0.mk (Kd.R_below (rk HO_459002) hb); have n4_ := kl BK425 hb; have n5_ := kl BK426 hb; have n6_ := kl BK435 hb; have n7_ := kl BK442 hb; have n8_ := kl BK449 hb; have n9_ := kl BK458 hb; have n10_ := ls6 HB GE425 GE426 GE435 GE442 GE449 GE458 hb; clear HO_436002; clear HO_443002; clear HO_450002; clear HO_459002; clear BK425; clear BK426; clear BK435; clear BK442; clear BK449; clear BK458; clear HB; have HO_436002 := n0_; have HO_443002 := n1_; have HO_450002 := n2_; have HO_459002 := n3_; have BK425 := n4_; have BK426 := n5_; have BK435 := n6_; have BK442 := n7_; have BK449 := n8_; have BK458 := n9_; have HB := n10_; clear n0_ n1_ n2_ n3_ n4_ n5_ n6_ n7_ n8_ n9_ n10_; (try clear hb); (try clear hb2); (try clear hk); (try clear hi); have hnb126 := NB442_425.out; have hnc126 := NB425_442.out; have hnb127 := NB442_435.out; have hnc127 := NB435_442.out; have hnb128 := NB442_449.out; have hnc128 := NB449_442.out; have hnb129 := NB442_458.out; have hnc129 := NB458_442.out; have hcz130_0 := bc BK442 0; have hcz130_1 := bc BK442 1; have hcz130_2 := bc BK442 2; have hfz130_0 := blk_frozen BK442.out 0; have hfz130_1 := blk_frozen BK442.out 1; have hfz130_2 := blk_frozen BK442.out 2; have hcz131_0 := bc BK426 0; have hfz131_0 := blk_frozen BK426.out 0) | ((with_reducible refine gate_callee (f := 14) rfl ?_); refine goesL_ (some 133) rfl rfl Tryd.func14 (by kernel_rfl) rfl #[.agg #[.string t436, .int .i64 t437, .slice Ao34 t438.length co34], .agg #[.slice A1_0 l1_0.length c1_0], .int .i64 a2, .int .i64 a3] rfl (by (try simp only [List.map_toArray, List.map_cons, List.map_nil]); first | done | rfl | (simp only [List.length_drop, List.length_take]; rfl)) ?_; (with_reducible refine (prepaid_Reserve.calls t436 t437 _ _ t438 _ _ l1_0 a2 a3 t463 t464 t465 t468 t469 _ ?side1 ?side2 ?side3 ?side4 A118.out).mono ?_); (case side1 => repeat (first | exact (Kd.R_reads' HO_443002.out).2.2 | (with_reducible refine Kd.C_alloc ?_ _) | (with_reducible refine Kd.C_drewN ?_ _) | (with_reducible refine Kd.C_drew ?_))); (case side2 => exact (Kd.R_reads' HO_443002.out).2.1); (case side3 => repeat (first | exact (Kd.C_below HR1_0.out HB.out) | (with_reducible refine Kd.C_alloc ?_ _) | (with_reducible refine Kd.C_drewN ?_ _) | (with_reducible refine Kd.C_drew ?_))); (case side4 => exact HC1_0.out); rintro e w132 ⟨v466, rfl, ho0, hb⟩; refine ⟨_, rfl, ?_⟩; have n0_ := Aside0.mk (Kd.R_elder' (rk HO_436002) (Kd.R_base ho0) hb); have n1_ := Aside0.mk (Kd.R_elder' (rk HO_443002) (Kd.R_base ho0) hb); have n2_ := Aside0.mk (Kd.R_elder' (rk HO_450002) (Kd.R_base ho0) hb); have n3_ := Aside0.mk (Kd.R_elder' (rk HO_459002) (Kd.R_base ho0) hb); have n4_ := Aside0.mk (Kd.R_lower (Kd.R_new' (Kd.R_new' (Kd.R_new' (Kd.R_new' ho0 (Kd.R_lt (rk HO_436002))) (Kd.R_lt (rk HO_443002))) (Kd.R_lt (rk HO_450002))) (Kd.R_lt (rk HO_459002))) (below_size (lb6 HB GE425 GE426 GE435 GE442 GE449 GE458))); have n5_ := kl BK425 hb; have n6_ := kl BK426 hb; have n7_ := kl BK435 hb; have n8_ := kl BK442 hb; have n9_ := kl BK449 hb; have n10_ := kl BK458 hb; have n11_ := ls6 HB GE425 GE426 GE435 GE442 GE449 GE458 hb; clear HO_436002; clear HO_443002; clear HO_450002; clear HO_459002; clear BK425; clear BK426; clear BK435; clear BK442; clear BK449; clear BK458; clear HB; have HO_436002 := n0_; have HO_443002 := n1_; have HO_450002 := n2_; have HO_459002 := n3_; have HO467 := n4_; have BK425 := n5_; have BK426 := n6_; have BK435 := n7_; have BK442 := n8_; have BK449 := n9_; have BK458 := n10_; have HB := n11_; clear n0_ n1_ n2_ n3_ n4_ n5_ n6_ n7_ n8_ n9_ n10_ n11_; (try clear hb); (try clear hb2); (try clear hk); (try clear hi); (try clear ho0)) | ((with_reducible refine gate_dst (N := 26) rfl ?_); refine box_event ?hg (N := 26) ?hd (cs := #[.string (⟨#[]⟩ : ByteArray), .int .i64 0, .slice none 0 0]) (t := 31) ?hr ?_; (case hd => rfl); (case hg => rfl); (case hr => first | (go_simp; done) | (go_simp; rfl)); intro gb470 hg w133 hbox hb; have n0_ := Aside0.mk (Kd.R_below (rk HO_436002) hb); have n1_ := Aside0.mk (Kd.R_below (rk HO_443002) hb); have n2_ := Aside0.mk (Kd.R_below (rk HO_450002) hb); have n3_ := Aside0.mk (Kd.R_below (rk HO_459002) hb); have n4_ := Aside0.mk (Kd.R_below (rk HO467) hb); have n5_ := kl BK425 hb; have n6_ := kl BK426 hb; have n7_ := kl BK435 hb; have n8_ := kl BK442 hb; have n9_ := kl BK449 hb; have n10_ := kl BK458 hb; have n11_ := ls6 HB GE425 GE426 GE435 GE442 GE449 GE458 hb; have n12_ := Aside0.mk (hbox); have n13_ := Aside0.mk ((by rw [hg]; exact (below_size (lb6 HB GE425 GE426 GE435 GE442 GE449 GE458)) : w.heap.size ≤ gb470)); have n14_ := Aside0.mk ((by rw [hg]; exact (below_size (lb6 HB GE425 GE426 GE435 GE442 GE449 GE458)) : w.heap.size ≤ gb470)); have n15_ := kn BK425 hg; have n16_ := km BK425 hg; have n17_ := kn BK426 hg; have n18_ := km BK426 hg; have n19_ := kn BK435 hg; have n20_ := km BK435 hg; have n21_ := kn BK442 hg; have n22_ := km BK442 hg; have n23_ := kn BK449 hg; have n24_ := km BK449 hg; have n25_ := kn BK458 hg; have n26_ := km BK458 hg; clear HO_436002; clear HO_443002; clear HO_450002; clear HO_459002; clear HO467; clear BK425; clear BK426; clear BK435; clear BK442; clear BK449; clear BK458; clear HB; have HO_436002 := n0_; have HO_443002 := n1_; have HO_450002 := n2_; have HO_459002 := n3_; have HO467 := n4_; have BK425 := n5_; have BK426 := n6_; have BK435 := n7_; have BK442 := n8_; have BK449 := n9_; have BK458 := n10_; have HB := n11_; have BK470 := n12_; have GW470 := n13_; have GE470 := n14_; have NB425_470 := n15_; have NB470_425 := n16_; have NB426_470 := n17_; have NB470_426 := n18_; have NB435_470 := n19_; have NB470_435 := n20_; have NB442_470 := n21_; have NB470_442 := n22_; have NB449_470 := n23_; have NB470_449 := n24_; have NB458_470 := n25_; have NB470_458 := n26_; clear n0_ n1_ n2_ n3_ n4_ n5_ n6_ n7_ n8_ n9_ n10_ n11_ n12_ n13_ n14_ n15_ n16_ n17_ n18_ n19_ n20_ n21_ n22_ n23_ n24_ n25_ n26_; clear hb hbox hg; have hnb134 := NB470_425.out; have hnc134 := NB425_470.out; have hnb135 := NB470_426.out; have hnc135 := NB426_470.out; have hnb136 := NB470_435.out; have hnc136 := NB435_470.out; have hnb137 := NB470_442.out; have hnc137 := NB442_470.out; have hnb138 := NB470_449.out; have hnc138 := NB449_470.out; have hnb139 := NB470_458.out; have hnc139 := NB458_470.out; have hcz140_0 := bc BK470 0; have hcz140_1 := bc BK470 1; have hcz140_2 := bc BK470 2; have hfz140_0 := blk_frozen BK470.out 0; have hfz140_1 := blk_frozen BK470.out 1; have hfz140_2 := blk_frozen BK470.out 2; obtain ⟨Ao141, co141, eo141⟩ := Kd.R_slice HO467.out; subst eo141; have hcz142_0 := bc BK442 0; have hcz142_1 := bc BK442 1; have hcz142_2 := bc BK442 2; have hfz142_0 := blk_frozen BK442.out 0; have hfz142_1 := blk_frozen BK442.out 1; have hfz142_2 := blk_frozen BK442.out 2))
                go_ret
                exact ⟨by first | rfl | (simp [errW_none, errW_some] <;> rfl) | (simp only [← hji107]; first | rfl | (simp [errW_none, errW_some] <;> rfl)) | (simp [*, errW_none, errW_some] <;> rfl), lb7 HB GE425 GE426 GE435 GE442 GE449 GE458 GE470⟩
               ·rw [if_neg c117] at H
                have c117b0 : (t462 == 0) = false := beq_eq_false_iff_ne.mpr c117
                have c117b1 : (t462 != 0) = true := bne_iff_ne.mpr c117
                obtain rfl := Option.some.inj H
                have hnb143 := NB426_425.out
                have hnc143 := NB425_426.out
                have hnb144 := NB426_435.out
                have hnc144 := NB435_426.out
                have hnb145 := NB426_442.out
                have hnc145 := NB442_426.out
                have hnb146 := NB426_449.out
                have hnc146 := NB449_426.out
                have hnb147 := NB426_458.out
                have hnc147 := NB458_426.out
                have hcz148_0 := bc BK426 0
                have hfz148_0 := blk_frozen BK426.out 0
                go_wp2_with (first | ((with_reducible refine gate_callee (f := 19) rfl ?_); refine goesL_ (some 119) rfl rfl Tryd.func19 (by kernel_rfl) rfl #[.agg #[.slice A1_0 l1_0.length c1_0], .int .i64 x22_89, .int .i64 (wrap64 ((ji107) + 1))] rfl (by (try simp only [List.map_toArray, List.map_cons, List.map_nil]); first | done | (simp only [hji107]; rfl) | rfl | (simp only [List.length_drop, List.length_take]; rfl)) ?_; (with_reducible refine (tariff_Price.calls kj89 _ _ l1_0 x22_89 (wrap64 ((ji107) + 1)) t461 t462 _ ?side1 ?side2 A108.out).mono ?_); (case side1 => repeat (first | exact (Kd.C_below HR1_0.out HB.out) | (with_reducible refine Kd.C_alloc ?_ _) | (with_reducible refine Kd.C_drewN ?_ _) | (with_reducible refine Kd.C_drew ?_))); (case side2 => exact HC1_0.out); rintro e w149 ⟨rfl, hb⟩; refine ⟨_, rfl, ?_⟩; have n0_ := Aside0.mk (Kd.R_below (rk HO_436002) hb); have n1_ := Aside0.mk (Kd.R_below (rk HO_443002) hb); have n2_ := Aside0.mk (Kd.R_below (rk HO_450002) hb); have n3_ := Aside0.mk (Kd.R_below (rk HO_459002) hb); have n4_ := kl BK425 hb; have n5_ := kl BK426 hb; have n6_ := kl BK435 hb; have n7_ := kl BK442 hb; have n8_ := kl BK449 hb; have n9_ := kl BK458 hb; have n10_ := ls6 HB GE425 GE426 GE435 GE442 GE449 GE458 hb; clear HO_436002; clear HO_443002; clear HO_450002; clear HO_459002; clear BK425; clear BK426; clear BK435; clear BK442; clear BK449; clear BK458; clear HB; have HO_436002 := n0_; have HO_443002 := n1_; have HO_450002 := n2_; have HO_459002 := n3_; have BK425 := n4_; have BK426 := n5_; have BK435 := n6_; have BK442 := n7_; have BK449 := n8_; have BK458 := n9_; have HB := n10_; clear n0_ n1_ n2_ n3_ n4_ n5_ n6_ n7_ n8_ n9_ n10_; (try clear hb); (try clear hb2); (try clear hk); (try clear hi)))
                go_ret
                exact ⟨by first | rfl | (simp [errW_none, errW_some] <;> rfl) | (simp only [← hji107]; first | rfl | (simp [errW_none, errW_some] <;> rfl)) | (simp [*, errW_none, errW_some] <;> rfl), lb6 HB GE425 GE426 GE435 GE442 GE449 GE458⟩
  ·replace c10 := Bool.eq_false_iff.mpr c10
   subst c10
   have H1 : (some true) = some r := by rw [if_neg (show ¬ (false = true) by decide)] at H; exact H
   clear H
   have H := H1
   clear H1
   obtain rfl := Option.some.inj H
   go_enter Tryd.func10, Tryd.ntmps10
   go_wp2_with (first | ((with_reducible refine gate_dst (N := 6) rfl ?_); refine box_event ?hg (N := 6) ?hd (cs := #[.string a0_0, .int .i64 a0_1, .slice A0_2 l0_2.length c0_2]) (t := 31) ?hr ?_; (case hd => rfl); (case hg => rfl); (case hr => first | (go_simp; done) | (go_simp; rfl)); intro gb425 hg w150 hbox hb; have n0_ := ls0 HB hb; have n1_ := Aside0.mk (hbox); have n2_ := Aside0.mk ((by rw [hg]; exact (below_size (lb0 HB)) : w.heap.size ≤ gb425)); have n3_ := Aside0.mk ((by rw [hg]; exact (below_size (lb0 HB)) : w.heap.size ≤ gb425)); clear HB; have HB := n0_; have BK425 := n1_; have GW425 := n2_; have GE425 := n3_; clear n0_ n1_ n2_ n3_; clear hb hbox hg) | ((with_reducible refine gate_dst (N := 7) rfl ?_); refine box_event ?hg (N := 7) ?hd (cs := #[.slice A1_0 l1_0.length c1_0]) (t := 24) ?hr ?_; (case hd => rfl); (case hg => rfl); (case hr => first | (go_simp; done) | (go_simp; rfl)); intro gb426 hg w151 hbox hb; have n0_ := kl BK425 hb; have n1_ := ls1 HB GE425 hb; have n2_ := Aside0.mk (hbox); have n3_ := Aside0.mk ((by rw [hg]; exact (below_size (lb1 HB GE425)) : w.heap.size ≤ gb426)); have n4_ := Aside0.mk ((by rw [hg]; exact (below_size (lb1 HB GE425)) : w.heap.size ≤ gb426)); have n5_ := kn BK425 hg; have n6_ := km BK425 hg; clear BK425; clear HB; have BK425 := n0_; have HB := n1_; have BK426 := n2_; have GW426 := n3_; have GE426 := n4_; have NB425_426 := n5_; have NB426_425 := n6_; clear n0_ n1_ n2_ n3_ n4_ n5_ n6_; clear hb hbox hg) | ((with_reducible refine gate_callee (f := 21) rfl ?_); refine goesL_ (some 29) rfl rfl Tryd.func21 (by kernel_rfl) rfl #[] rfl (by (try simp only [List.map_toArray, List.map_cons, List.map_nil]); first | done | rfl | (simp only [List.length_drop, List.length_take]; rfl)) ?_; (with_reducible refine (crossbarlaw28_sane.calls k  true _ A7.out).mono ?_); rintro e w152 ⟨rfl, hb⟩; refine ⟨_, rfl, ?_⟩; have n0_ := kl BK425 hb; have n1_ := kl BK426 hb; have n2_ := ls2 HB GE425 GE426 hb; clear BK425; clear BK426; clear HB; have BK425 := n0_; have BK426 := n1_; have HB := n2_; clear n0_ n1_ n2_; (try clear hb); (try clear hb2); (try clear hk); (try clear hi); have hnb153 := NB425_426.out; have hnc153 := NB426_425.out; have hcz154_0 := bc BK425 0; have hcz154_1 := bc BK425 1; have hcz154_2 := bc BK425 2; have hfz154_0 := blk_frozen BK425.out 0; have hfz154_1 := blk_frozen BK425.out 1; have hfz154_2 := blk_frozen BK425.out 2; have hcz155_0 := bc BK426 0; have hfz155_0 := blk_frozen BK426.out 0) | ((with_reducible refine gate_callee (f := 22) rfl ?_); refine goesL_ (some 33) rfl rfl Tryd.func22 (by kernel_rfl) rfl #[.agg #[.string a0_0, .int .i64 a0_1, .slice A0_2 l0_2.length c0_2], .agg #[.slice A1_0 l1_0.length c1_0]] rfl (by (try simp only [List.map_toArray, List.map_cons, List.map_nil]); first | done | rfl | (simp only [List.length_drop, List.length_take]; rfl)) ?_; (with_reducible refine (crossbarref28_Few.calls a0_0 a0_1 _ _ l0_2 _ _ l1_0 false _ ?side1 ?side2 ?side3 ?side4 A9.out).mono ?_); (case side1 => repeat (first | exact (Kd.C_below HR0_2.out HB.out) | (with_reducible refine Kd.C_alloc ?_ _) | (with_reducible refine Kd.C_drewN ?_ _) | (with_reducible refine Kd.C_drew ?_))); (case side2 => exact HC0_2.out); (case side3 => repeat (first | exact (Kd.C_below HR1_0.out HB.out) | (with_reducible refine Kd.C_alloc ?_ _) | (with_reducible refine Kd.C_drewN ?_ _) | (with_reducible refine Kd.C_drew ?_))); (case side4 => exact HC1_0.out); rintro e w156 ⟨rfl, hb⟩; refine ⟨_, rfl, ?_⟩; have n0_ := kl BK425 hb; have n1_ := kl BK426 hb; have n2_ := ls2 HB GE425 GE426 hb; clear BK425; clear BK426; clear HB; have BK425 := n0_; have BK426 := n1_; have HB := n2_; clear n0_ n1_ n2_; (try clear hb); (try clear hb2); (try clear hk); (try clear hi)))
   go_ret
   exact ⟨by first | rfl | (simp [errW_none, errW_some] <;> rfl) | (simp [*, errW_none, errW_some] <;> rfl), lb2 HB GE425 GE426⟩
 ·replace c8 := Bool.eq_false_iff.mpr c8
  subst c8
  have H1 : (some false) = some r := by rw [if_neg (show ¬ (false = true) by decide)] at H; exact H
  clear H
  have H := H1
  clear H1
  exact absurd ((Option.some.inj H).trans HT_TRUE.out) (by simp)

end Go.Proofs.YtldpacphackdjaaDoor.Print
/- That the printed law PrepaidDeposits answers true at every account, tariff, call, time and pair of deposits. No condition that the law itself does not guard. -/
namespace Go.Proofs.YtldpacphackdjaaDoor.Print
open Go.RowKit Go.Proofs.YtldpacphackdjaaDoorW.PrintWords Go.Proofs.YtldpacphackdjaaDoorW.PrintLast Go.Proofs.YtldpacphackdjaaDoorW.PrintMore
set_option linter.unusedVariables false
set_option linter.unusedSimpArgs false
theorem mx_bd (a b : Int) (h0 : 0 ≤ a) (h1 : a ≤ 1099511627776) (h2 : 0 ≤ b) (h3 : b ≤ 1099511627776) : 0 ≤ mx a b ∧ mx a b ≤ 1099511627776 ∧ a ≤ mx a b ∧ b ≤ mx a b ∧ (mx a b = a ∨ mx a b = b) := by
  unfold mx
  split <;> omega
theorem lim_next (now st : Int) (h0 : 0 ≤ now) (h1 : now < 1099511627776) (h2 : 0 ≤ st) (h3 : st < 1099511627776) : mx st now - st < limOf now st := by
  unfold limOf mn mx
  split <;> split <;> (try split) <;> omega
theorem dep_j3 {s : ByteArray} {b : Int} {l : List S54} {tl : List S70} {ref now : Int} (ha : Acc s b l) (hg : good tl = true) (h1 : 1 ≤ ref ∧ ref ≤ 1099511627776) (h2 : 0 ≤ now ∧ now < 1099511627776) (h3 : ¬ (foundH ref l = false ∧ l.length = 1024)) (k : Nat) (hk : 100 ≤ k) :
    crossbarlaw28_PrepaidDeposits.j3 k ref now (stH ref now l) tl s b l = some true := by
  obtain ⟨k, rfl⟩ : ∃ i, k = i + 1 := ⟨k - 1, by omega⟩
  have hst := st_bd (ref := ref) ha h2.1 (by omega)
  have hm := mx_bd (stH ref now l) now hst.1 hst.2.1 h2.1 (by omega)
  simp only [crossbarlaw28_PrepaidDeposits.j3]
  rw [show wrap64 (mx (stH ref now l) now + 1) = mx (stH ref now l) now + 1 by unfold wrap64; omega]
  by_cases hs : stH ref now l ≥ 1099511627776
  · rw [price_is tl _ _ k (by omega), Option.bind_some, if_pos hs]
  · rw [price_ok hg (stH ref now l) (mx (stH ref now l) now + 1) hst.1 (by omega) (by omega) k (by omega), Option.bind_some]
    simp only
    rw [if_neg hs, if_pos trivial]
    have hb := ha.bal
    have hlim := lim_next now (stH ref now l) h2.1 h2.2 hst.1 (by omega)
    have hsec : secs b l tl ref now = (affN tl (stH ref now l) b (limOf now (stH ref now l)).toNat : Int) := rfl
    obtain ⟨j, hj⟩ := Int.eq_ofNat_of_zero_le (show 0 ≤ mx (stH ref now l) now - stH ref now l by omega)
    have hi := affN_iff hg (stH ref now l) b hst.1 hb.1 (limOf now (stH ref now l)).toNat j (by omega)
    rw [show stH ref now l + (j : Int) + 1 = mx (stH ref now l) now + 1 by omega] at hi
    by_cases hok : ROk s b l tl ref now
    · have hp := hok.pos
      have hl := hok.late
      have hc := cost_bd (ref := ref) ha hg h2.1 (by omega)
      rw [reserve_ok hok, Option.bind_some]
      have : ¬ b < totalP tl (mx (stH ref now l) now + 1) - totalP tl (stH ref now l) := fun h => by
        have := hi.1 h
        omega
      rw [decide_eq_true (by omega : b ≥ totalP tl (mx (stH ref now l) now + 1) - totalP tl (stH ref now l))]
      rfl
    · obtain ⟨e, he, hne⟩ := reserve_err hok
      rw [he, Option.bind_some]
      have : b < totalP tl (mx (stH ref now l) now + 1) - totalP tl (stH ref now l) := by
        refine hi.2 (Nat.le_of_not_lt fun h => hok ⟨ha, hg, h1.1, h1.2, h2.1, by omega, h3, by omega, by omega⟩)
      rw [decide_eq_false (by omega : ¬ b ≥ totalP tl (mx (stH ref now l) now + 1) - totalP tl (stH ref now l))]
      simp [hne]
theorem dep_j1 {s : ByteArray} {b b2 : Int} {l : List S54} {tl : List S70} {ref now : Int} (ha2 : Acc s b2 l) (k : Nat) (hk : 2000 ≤ k) :
    crossbarlaw28_PrepaidDeposits.j1 k ref now false s b l tl s b2 l = some true := by
  obtain ⟨k, rfl⟩ : ∃ i, k = i + 2 := ⟨k - 2, by omega⟩
  have j2t : crossbarlaw28_PrepaidDeposits.j2 (k + 1) ref now true s b l tl s b2 l = some true := by
    simp only [crossbarlaw28_PrepaidDeposits.j2]
    rw [if_pos trivial]
  have hlen := ha2.len
  simp only [crossbarlaw28_PrepaidDeposits.j1]
  rw [if_neg (by simp)]
  by_cases hok : ROk s b l tl ref now
  · rw [reserve_ok hok, Option.bind_some]
    simp only
    rw [if_neg (by omega), j2t]
  · obtain ⟨e, he, hne⟩ := reserve_err hok
    rw [he, Option.bind_some]
    simp only
    by_cases h280 : e = 280
    · subst h280
      obtain ⟨ha, hg, h1, h2, h3, _⟩ := credit_only he
      rw [if_pos rfl]
      by_cases hnow : now ≥ 1099511627776
      · rw [decide_eq_true hnow, j2t]
      · rw [decide_eq_false hnow]
        simp only [crossbarlaw28_PrepaidDeposits.j2]
        have hj := dep_j3 ha2 hg h1 (ref := ref) (now := now) ⟨h2.1, by omega⟩ h3 k (by omega)
        have hfi := find_sorted ha.holds (by omega) ref s b k (by omega)
        rw [if_neg (by simp)]
        cases hfo : foundH ref l with
        | true =>
          have hi := found_lt hfo
          rw [if_pos hfo] at hfi
          have e := (at_found (now := now) hfo).2
          rw [show stH ref now l = (atH ref now l).f2 from rfl, e] at hj
          rw [hfi, Option.bind_some, if_pos (by omega), if_pos (by omega), if_pos (by omega)]
          exact hj
        | false =>
          rw [if_neg (by rw [hfo]; simp)] at hfi
          have e := (at_new (now := now) hfo).2
          rw [show stH ref now l = (atH ref now l).f2 from rfl, e] at hj
          rw [hfi, Option.bind_some, if_neg (by omega)]
          exact hj
    · rw [if_neg h280, j2t]
theorem dep_no (k : Nat) (x2 x3 x4 x5 e f : Int) (s : ByteArray) (b : Int) (l : List S54) (tl : List S70) (s2 : ByteArray) (b2 : Int) (l2 : List S54) (h : e = 0 → f = 1 ∨ f = 2) :
    crossbarlaw28_PrepaidDeposits.j0 (k + 1) x2 x3 x4 x5 e f true s b l tl s2 b2 l2 = some true := by
  simp only [crossbarlaw28_PrepaidDeposits.j0]
  rw [if_pos trivial]
  by_cases he : e = 0
  · rw [if_pos he]
    rcases h he with rfl | rfl
    · rw [if_pos rfl]
    · rw [if_neg (by omega)]; rfl
  · rw [if_neg he]
theorem dep_some (s : ByteArray) (b : Int) (l : List S54) (n : Int) : ∃ r1 r2 r3 r4, prepaid_Deposit.f s b l n = some (r1, r2, r3, r4) := by
  by_cases hok : Acc s b l ∧ 0 ≤ n ∧ b + sumU l + n ≤ 1099511627776
  · exact ⟨_, _, _, _, deposit_ok hok.1 n hok.2.1 hok.2.2⟩
  · obtain ⟨e, he, _⟩ := deposit_no n hok
    exact ⟨_, _, _, _, he⟩
theorem PrepaidDeposits_pure (s : ByteArray) (b : Int) (l : List S54) (tl : List S70) (ref now units more : Int) (hs : s.size ≤ maxLen) (hb : Rng b) (hn : l.length ≤ 9223372036854775807) (hw : ∀ x ∈ l, Rng x.f0 ∧ Rng x.f1 ∧ Rng x.f2) (hn1 : tl.length ≤ 9223372036854775807) (hw1 : ∀ x ∈ tl, Rng x.f0 ∧ Rng x.f1) (w1 : (Lit.int .i64 ref).wf = true) (w2 : (Lit.int .i64 now).wf = true) (w3 : (Lit.int .i64 units).wf = true) (w4 : (Lit.int .i64 more).wf = true) : ∃ k, crossbarlaw28_PrepaidDeposits.f k s b l tl ref now units more = some true := by
  refine ⟨4000, ?_⟩
  unfold crossbarlaw28_PrepaidDeposits.f
  rw [sane28_is 4000 (by omega), Option.bind_some, if_pos rfl, few28_is, Option.bind_some]
  by_cases hf : l.length ≤ 1100 ∧ s.size ≤ 100 ∧ tl.length ≤ 100
  · rw [if_pos (decide_eq_true hf)]
    by_cases hok : Acc s b l ∧ 0 ≤ units ∧ b + sumU l + units ≤ 1099511627776
    · obtain ⟨ha, hu, hsum⟩ := hok
      have ha1 := acc_deposit ha units hu hsum
      have hlen := ha.len
      have hsu := (sumU_bd _ _ ha.holds).1
      have hbal := ha.bal
      rw [deposit_ok ha units hu hsum, Option.bind_some]
      simp only
      by_cases hok2 : Acc s (b + units) l ∧ 0 ≤ more ∧ b + units + sumU l + more ≤ 1099511627776
      · obtain ⟨_, hm, hsum2⟩ := hok2
        have ha2 := acc_deposit ha1 more hm hsum2
        rw [deposit_ok ha1 more hm hsum2, Option.bind_some]
        simp only
        rw [if_pos trivial, show ((0 : Int) != 0) = false from rfl]
        simp only [crossbarlaw28_PrepaidDeposits.j0]
        rw [if_neg (by simp), show wrap64 (units + more) = units + more by unfold wrap64; omega, deposit_ok ha (units + more) (by omega) (by omega), Option.bind_some]
        simp only
        rw [if_pos (by omega), if_pos trivial, show b + units + more = b + (units + more) by omega, same_refl s _ l (by omega) 3999 (by omega), Option.bind_some, Bool.not_true]
        rw [show b + units + more = b + (units + more) by omega] at ha2
        exact dep_j1 ha2 3999 (by omega)
      · obtain ⟨e, he, hne⟩ := deposit_no more hok2
        rw [he, Option.bind_some]
        simp only
        rw [if_pos trivial, show (e != 0) = true from by rw [bne_iff_ne]; omega]
        exact dep_no 3999 _ _ _ _ _ _ _ _ _ _ _ _ _ (fun _ => hne)
    · obtain ⟨e, he, hne⟩ := deposit_no units hok
      obtain ⟨r1, r2, r3, r4, hr⟩ := dep_some ⟨#[]⟩ 0 [] more
      rw [he, Option.bind_some]
      simp only
      rw [hr, Option.bind_some]
      simp only
      rw [if_neg (by omega)]
      exact dep_no 3999 _ _ _ _ _ _ _ _ _ _ _ _ _ (fun h => by omega)
  · rw [if_neg (by simpa using hf)]
end Go.Proofs.YtldpacphackdjaaDoor.Print
