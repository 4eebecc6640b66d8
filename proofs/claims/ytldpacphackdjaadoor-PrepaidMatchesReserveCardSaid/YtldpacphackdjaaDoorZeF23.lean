/- That the call of function 23 (crossbarref28_Reserve) answers what the Lean function of the same name answers, at every input at which that one answers. (Written by a program of the session, which drives the kit's printer.) -/
import Derived.Test.YtldpacphackdjaaDoorZaSq
import Derived.Test.YtldpacphackdjaaDoorZaK0
import Derived.Test.YtldpacphackdjaaDoorZa6
import Derived.Test.YtldpacphackdjaaDoorZd1
import Derived.Test.YtldpacphackdjaaDoorZdF30
import Derived.Test.YtldpacphackdjaaDoorZeF55
import Derived.Test.YtldpacphackdjaaDoorZe1
namespace Go.Proofs.YtldpacphackdjaaDoor.Print
open Go.RowKit Go.Proofs.YtldpacphackdjaaDoorW.PrintWords Go.Proofs.YtldpacphackdjaaDoorW.PrintLast Go.Proofs.YtldpacphackdjaaDoorW.PrintMore
attribute [local go_sem] max2_int min2_int max_two min_two max_three min_three max_four min_four   -- for this text's walks alone
set_option linter.unusedVariables false
set_option linter.unusedSimpArgs false

/-! ### crossbarref28_Reserve: function 23 -/
mutual
def crossbarref28_Reserve.j0 : Nat → Int → Int → Int → ByteArray → Int → List (S54) → List (S70) → Option (ByteArray × Int × (List (S54)) × Int × Int)
 | 0, _, _, _, _, _, _, _ => none
 | k + 1, x2, x3, x11, x236000, x236001, x236002, x237000 => if x11 = 0 then (if x2 < 1 then (crossbarref28_Reserve.j1 k x2 x3 true x236000 x236001 x236002 x237000) else ((crossbarref28_within.f x2).bind fun t240 => (if t240 = true then ((crossbarref28_within.f x3).bind fun t241 => (crossbarref28_Reserve.j1 k x2 x3 (!t241) x236000 x236001 x236002 x237000)) else (crossbarref28_Reserve.j1 k x2 x3 true x236000 x236001 x236002 x237000)))) else (some ((⟨#[]⟩ : ByteArray), 0, ([] : List (S54)), 0, x11))
def crossbarref28_Reserve.j1 : Nat → Int → Int → Bool → ByteArray → Int → List (S54) → List (S70) → Option (ByteArray × Int × (List (S54)) × Int × Int)
 | 0, _, _, _, _, _, _, _ => none
 | k + 1, x2, x3, x41, x236000, x236001, x236002, x237000 => if x41 = true then (some ((⟨#[]⟩ : ByteArray), 0, ([] : List (S54)), 0, 1)) else ((crossbarref28_Find.f k x236000 x236001 x236002 x2).bind fun t242 => (if t242 < 0 then (crossbarref28_Reserve.j2 k x2 x3 t242 ((x236002.length : Int) == 1024) x236000 x236001 x236002 x237000) else (crossbarref28_Reserve.j2 k x2 x3 t242 false x236000 x236001 x236002 x237000)))
def crossbarref28_Reserve.j2 : Nat → Int → Int → Int → Bool → ByteArray → Int → List (S54) → List (S70) → Option (ByteArray × Int × (List (S54)) × Int × Int)
 | 0, _, _, _, _, _, _, _, _ => none
 | k + 1, x2, x3, x12, x53, x236000, x236001, x236002, x237000 => if x53 = true then (some ((⟨#[]⟩ : ByteArray), 0, ([] : List (S54)), 0, 2)) else (if x12 ≥ 0 then (if 0 ≤ x12 then (if x12 < (x236002.length : Int) then (crossbarref28_Reserve.j3 k x3 x236000 x236001 x236002 x237000 ((rd_T54 x236002 x12).f0) ((rd_T54 x236002 x12).f1) ((rd_T54 x236002 x12).f2)) else (none)) else (none)) else (crossbarref28_Reserve.j3 k x3 x236000 x236001 x236002 x237000 x2 0 x3))
def crossbarref28_Reserve.j3 : Nat → Int → ByteArray → Int → List (S54) → List (S70) → Int → Int → Int → Option (ByteArray × Int × (List (S54)) × Int × Int)
 | 0, _, _, _, _, _, _, _, _ => none
 | k + 1, x3, x236000, x236001, x236002, x237000, x244000, x244001, x244002 => (crossbarref26_Afford.f k x237000 x244002 x236001 (mn (wrap64 (30 + (mx 0 (wrap64 (x3 - x244002))))) (wrap64 (1099511627776 - x244002)))).bind fun bt245 => (if bt245.1 = 0 then (crossbarref28_Reserve.j4 k x244002 bt245.1 true x236000 x236001 x236002 x237000 x244000 x244001 x244002) else (crossbarref28_Reserve.j4 k x244002 bt245.1 (decide ((wrap64 (x244002 + bt245.1)) ≤ x3)) x236000 x236001 x236002 x237000 x244000 x244001 x244002))
def crossbarref28_Reserve.j4 : Nat → Int → Int → Bool → ByteArray → Int → List (S54) → List (S70) → Int → Int → Int → Option (ByteArray × Int × (List (S54)) × Int × Int)
 | 0, _, _, _, _, _, _, _, _, _, _ => none
 | k + 1, x14, x16, x92, x236000, x236001, x236002, x237000, x244000, x244001, x244002 => if x92 = true then (some ((⟨#[]⟩ : ByteArray), 0, ([] : List (S54)), 0, 280)) else ((crossbarref26_Price.f k x237000 x14 (wrap64 (x14 + x16))).bind fun bt247 => ((crossbarref28_with.f k x236002 x244000 (wrap64 (x244001 + bt247.1)) (wrap64 (x14 + x16))).bind fun t249 => (some (x236000, wrap64 (x236001 - bt247.1), t249, wrap64 (x14 + x16), 0))))
end
def crossbarref28_Reserve.f (k : Nat) (a0_0 : ByteArray) (a0_1 : Int) (l0_2 : List (S54)) (l1_0 : List (S70)) (a2 : Int) (a3 : Int) : Option (ByteArray × Int × (List (S54)) × Int × Int) := (crossbarref28_Check.f k a0_0 a0_1 l0_2).bind fun t238 => (if t238 = 0 then ((crossbarref26_Check.f k l1_0).bind fun t239 => (crossbarref28_Reserve.j0 k a2 a3 t239 a0_0 a0_1 l0_2 l1_0)) else (crossbarref28_Reserve.j0 k a2 a3 t238 a0_0 a0_1 l0_2 l1_0))
def crossbarref28_Reserve.T22 : Bool × List (List Nat × List Nat) := (true, [([], []), ([0], [0]), ([], []), ([2], [2]), ([], []), ([3, 4], [3, 4]), ([], []), ([6], [6]), ([], []), ([7, 8], [7, 8]), ([1, 5, 9], [1, 5, 9]), ([], []), ([11], [11]), ([10, 9, 0, 1, 2, 3, 4, 5, 6, 7, 8, 9, 10], [10]), ([12, 13, 0, 1, 2, 3, 4, 5, 6, 7, 8, 9, 10, 11, 12, 13], [12]), ([14, 0, 1, 2, 3, 4, 5, 6, 7, 8, 9, 10, 11, 12, 13, 14], [])])
def crossbarref28_Reserve.B22 : List Nat := [0, 1, 0, 4, 0, 28, 0, 64, 0, 448, 1023, 0, 2048, 2047, 16383, 32767]
theorem crossbarref28_Reserve.tab22 : rtab .any (opsOf Tryd.f23 22) = crossbarref28_Reserve.T22 := by kernel_rfl
theorem crossbarref28_Reserve.bits22 : waitsOk crossbarref28_Reserve.T22.2 crossbarref28_Reserve.B22 = true := by kernel_rfl
set_option maxHeartbeats 8000000 in
set_option maxRecDepth 100000 in
theorem crossbarref28_Reserve.calls (k : Nat) (a0_0 : ByteArray) (a0_1 : Int) (A0_2 : Option Addr) (c0_2 : Nat) (l0_2 : List (S54)) (A1_0 : Option Addr) (c1_0 : Nat) (l1_0 : List (S70)) (a2 : Int) (a3 : Int) (r1 : ByteArray) (r2 : Int) (r3 : List (S54)) (r4 : Int) (r5 : Int) (w : World) (hr0_2 : Kd.C k54 w A0_2 l0_2.length l0_2) (hc0_2 : l0_2.length ≤ c0_2) (hr1_0 : Kd.C k70 w A1_0 l1_0.length l1_0) (hc1_0 : l1_0.length ≤ c1_0) (h : crossbarref28_Reserve.f k a0_0 a0_1 l0_2 l1_0 a2 a3 = some (r1, r2, r3, r4, r5)) :
  Calls Tryd.prog 23 #[.agg #[.string a0_0, .int .i64 a0_1, .slice A0_2 l0_2.length c0_2], .agg #[.slice A1_0 l1_0.length c1_0], .int .i64 a2, .int .i64 a3] w fun e w' => ∃ v2_ : Value, e = .returned (.tuple #[.agg #[.string r1, .int .i64 r2, v2_], .int .i64 r4, .int .i64 r5]) ∧ Kd.R k54 54 w' w.heap.size (fun _ => True) v2_ r3 ∧ Below w.heap.size w w' := by
 have hu31 := Tryd.underlying31
 have hu24 := Tryd.underlying24
 have hu54 := Tryd.underlying54
 have HR0_2 := Aside0.mk hr0_2
 have HC0_2 := Aside0.mk hc0_2
 clear hr0_2 hc0_2
 have HR1_0 := Aside0.mk hr1_0
 have HC1_0 := Aside0.mk hc1_0
 clear hr1_0 hc1_0
 have HB := Aside0.mk (Below.refl w.heap.size w)
 have H : ((crossbarref28_Check.f k a0_0 a0_1 l0_2).bind fun t238 => (if t238 = 0 then ((crossbarref26_Check.f k l1_0).bind fun t239 => (crossbarref28_Reserve.j0 k a2 a3 t239 a0_0 a0_1 l0_2 l1_0)) else (crossbarref28_Reserve.j0 k a2 a3 t238 a0_0 a0_1 l0_2 l1_0))) = some (r1, r2, r3, r4, r5) := h
 clear h
 replace H := Option.bind_eq_some_iff.mp H
 obtain ⟨t238, A50, H⟩ := H
 replace H : (if t238 = 0 then ((crossbarref26_Check.f k l1_0).bind fun t239 => (crossbarref28_Reserve.j0 k a2 a3 t239 a0_0 a0_1 l0_2 l1_0)) else (crossbarref28_Reserve.j0 k a2 a3 t238 a0_0 a0_1 l0_2 l1_0)) = some (r1, r2, r3, r4, r5) := H
 have A5 := Aside0.mk A50
 clear A50
 have HC6 := Aside0.mk H
 clear H
 go_enter Tryd.func23, Tryd.ntmps23
 go_upto_if 23 with (first | ((with_reducible refine gate_dst (N := 4) rfl ?_); (try (refine gate_guard (by rfl) ?_; dsimp only)); refine box_event ?hg (N := 4) ?hd (cs := #[.string a0_0, .int .i64 a0_1, .slice A0_2 l0_2.length c0_2]) (t := 31) ?hr ?_; (case hd => rfl); (case hg => rfl); (case hr => first | (go_simp; done) | (go_simp; rfl)); intro gb235 hg w7 hbox hb; have n0_ := ls0 HB hb; have n1_ := Aside0.mk (hbox); have n2_ := Aside0.mk ((by rw [hg]; exact (below_size (lb0 HB)) : w.heap.size ≤ gb235)); have n3_ := Aside0.mk ((by rw [hg]; exact (below_size (lb0 HB)) : w.heap.size ≤ gb235)); clear HB; have HB := n0_; have BK235 := n1_; have GW235 := n2_; have GE235 := n3_; clear n0_ n1_ n2_ n3_; clear hb hbox hg) | ((with_reducible refine gate_dst (N := 5) rfl ?_); (try (refine gate_guard (by rfl) ?_; dsimp only)); refine box_event ?hg (N := 5) ?hd (cs := #[.slice A1_0 l1_0.length c1_0]) (t := 24) ?hr ?_; (case hd => rfl); (case hg => rfl); (case hr => first | (go_simp; done) | (go_simp; rfl)); intro gb236 hg w8 hbox hb; have n0_ := kl BK235 hb; have n1_ := ls1 HB GE235 hb; have n2_ := Aside0.mk (hbox); have n3_ := Aside0.mk ((by rw [hg]; exact (below_size (lb1 HB GE235)) : w.heap.size ≤ gb236)); have n4_ := Aside0.mk ((by rw [hg]; exact (below_size (lb1 HB GE235)) : w.heap.size ≤ gb236)); have n5_ := kn BK235 hg; have n6_ := km BK235 hg; clear BK235; clear HB; have BK235 := n0_; have HB := n1_; have BK236 := n2_; have GW236 := n3_; have GE236 := n4_; have NB235_236 := n5_; have NB236_235 := n6_; clear n0_ n1_ n2_ n3_ n4_ n5_ n6_; clear hb hbox hg) | ((with_reducible refine gate_dst (N := 8) rfl ?_); (try (refine gate_guard (by rfl) ?_; dsimp only)); refine box_event ?hg (N := 8) ?hd (cs := #[.string (⟨#[]⟩ : ByteArray), .int .i64 0, .slice none 0 0]) (t := 31) ?hr ?_; (case hd => rfl); (case hg => rfl); (case hr => first | (go_simp; done) | (go_simp; rfl)); intro gb237 hg w9 hbox hb; have n0_ := kl BK235 hb; have n1_ := kl BK236 hb; have n2_ := ls2 HB GE235 GE236 hb; have n3_ := Aside0.mk (hbox); have n4_ := Aside0.mk ((by rw [hg]; exact (below_size (lb2 HB GE235 GE236)) : w.heap.size ≤ gb237)); have n5_ := Aside0.mk ((by rw [hg]; exact (below_size (lb2 HB GE235 GE236)) : w.heap.size ≤ gb237)); have n6_ := kn BK235 hg; have n7_ := km BK235 hg; have n8_ := kn BK236 hg; have n9_ := km BK236 hg; clear BK235; clear BK236; clear HB; have BK235 := n0_; have BK236 := n1_; have HB := n2_; have BK237 := n3_; have GW237 := n4_; have GE237 := n5_; have NB235_237 := n6_; have NB237_235 := n7_; have NB236_237 := n8_; have NB237_236 := n9_; clear n0_ n1_ n2_ n3_ n4_ n5_ n6_ n7_ n8_ n9_; clear hb hbox hg; have hnb10 := NB235_236.out; have hnc10 := NB236_235.out; have hnb11 := NB235_237.out; have hnc11 := NB237_235.out; have hcz12_0 := bc BK235 0; have hcz12_1 := bc BK235 1; have hcz12_2 := bc BK235 2; have hfz12_0 := blk_frozen BK235.out 0; have hfz12_1 := blk_frozen BK235.out 1; have hfz12_2 := blk_frozen BK235.out 2) | ((with_reducible refine gate_callee (f := 30) rfl ?_); refine goesL_ (some 21) rfl rfl Tryd.func30 (by kernel_rfl) rfl #[.agg #[.string a0_0, .int .i64 a0_1, .slice A0_2 l0_2.length c0_2]] rfl (by (try simp only [List.map_toArray, List.map_cons, List.map_nil]); first | done | rfl | (simp only [List.length_drop, List.length_take]; rfl)) ?_; (with_reducible refine (crossbarref28_Check.calls k a0_0 a0_1 _ _ l0_2 t238 _ ?side1 ?side2 A5.out).mono ?_); (case side1 => repeat (first | exact (Kd.C_below HR0_2.out HB.out) | (with_reducible refine Kd.C_alloc ?_ _) | (with_reducible refine Kd.C_drewN ?_ _) | (with_reducible refine Kd.C_drew ?_))); (case side2 => exact HC0_2.out); rintro e w13 ⟨rfl, hb⟩; refine ⟨_, rfl, ?_⟩; have n0_ := kl BK235 hb; have n1_ := kl BK236 hb; have n2_ := kl BK237 hb; have n3_ := ls3 HB GE235 GE236 GE237 hb; clear BK235; clear BK236; clear BK237; clear HB; have BK235 := n0_; have BK236 := n1_; have BK237 := n2_; have HB := n3_; clear n0_ n1_ n2_ n3_; (try clear hb); (try clear hb2); (try clear hk); (try clear hi)))
 (try simp only [Act.put, List.setIfInBounds_toArray, List.set_cons_zero, List.set_cons_succ])
 go_cut [11] (fun v11 wc => ∃ (kq : Nat) (x11_5 : Int), v11 = .int .i64 x11_5 ∧ Aside0 (crossbarref28_Reserve.j0 kq a2 a3 x11_5 a0_0 a0_1 l0_2 l1_0 = some (r1, r2, r3, r4, r5)) ∧ Aside0 (kq ≤ k) ∧ Aside0 (wc.heap[gb235]? = some (.cells #[.string a0_0, .int .i64 a0_1, (.slice A0_2 l0_2.length c0_2)] 31 (0, 0))) ∧ Aside0 (wc.heap[gb236]? = some (.cells #[(.slice A1_0 l1_0.length c1_0)] 24 (0, 0))) ∧ Aside0 (wc.heap[gb237]? = some (.cells #[.string (⟨#[]⟩ : ByteArray), .int .i64 0, (.slice none 0 0)] 31 (0, 0))) ∧ Aside0 (Below w.heap.size w wc))
 case first =>
  have H := HC6.out
  clear HC6
  by_cases c14 : t238 = 0
  ·rw [if_pos c14] at H
   have c14b0 : (t238 == 0) = true := beq_iff_eq.mpr c14
   have c14b1 : (t238 != 0) = false := bne_eq_false_iff_eq.mpr c14
   clear c14
   (first | rw [c14b0] | (simp only [i64_w, i32_w]; rw [c14b0]) | skip)
   replace H := Option.bind_eq_some_iff.mp H
   obtain ⟨t239, A150, H⟩ := H
   replace H : (crossbarref28_Reserve.j0 k a2 a3 t239 a0_0 a0_1 l0_2 l1_0) = some (r1, r2, r3, r4, r5) := H
   have A15 := Aside0.mk A150
   clear A150
   have H' := Aside0.mk H
   clear H
   have hnb16 := NB236_235.out
   have hnc16 := NB235_236.out
   have hnb17 := NB236_237.out
   have hnc17 := NB237_236.out
   have hcz18_0 := bc BK236 0
   have hfz18_0 := blk_frozen BK236.out 0
   go_wp2_with (first | ((with_reducible refine gate_callee (f := 55) rfl ?_); refine goesL_ (some 25) rfl rfl Tryd.func55 (by kernel_rfl) rfl #[.agg #[.slice A1_0 l1_0.length c1_0]] rfl (by (try simp only [List.map_toArray, List.map_cons, List.map_nil]); first | done | rfl | (simp only [List.length_drop, List.length_take]; rfl)) ?_; (with_reducible refine (crossbarref26_Check.calls k _ _ l1_0 t239 _ ?side1 ?side2 A15.out).mono ?_); (case side1 => repeat (first | exact (Kd.C_below HR1_0.out HB.out) | (with_reducible refine Kd.C_alloc ?_ _) | (with_reducible refine Kd.C_drewN ?_ _) | (with_reducible refine Kd.C_drew ?_))); (case side2 => exact HC1_0.out); rintro e w19 ⟨rfl, hb⟩; refine ⟨_, rfl, ?_⟩; have n0_ := kl BK235 hb; have n1_ := kl BK236 hb; have n2_ := kl BK237 hb; have n3_ := ls3 HB GE235 GE236 GE237 hb; clear BK235; clear BK236; clear BK237; clear HB; have BK235 := n0_; have BK236 := n1_; have BK237 := n2_; have HB := n3_; clear n0_ n1_ n2_ n3_; (try clear hb); (try clear hb2); (try clear hk); (try clear hi)))
   go_meet
   case rel => exact ⟨_, (t239), (by first | rfl | (simp; done) | (simp [*]; done)), H', ⟨by first | omega | exact Nat.le_refl _⟩, ⟨kb BK235⟩, ⟨kb BK236⟩, ⟨kb BK237⟩, ⟨lb3 HB GE235 GE236 GE237⟩⟩
  ·rw [if_neg c14] at H
   have c14b0 : (t238 == 0) = false := beq_eq_false_iff_ne.mpr c14
   have c14b1 : (t238 != 0) = true := bne_iff_ne.mpr c14
   (first | rw [c14b0] | (simp only [i64_w, i32_w]; rw [c14b0]) | skip)
   have H' := Aside0.mk H
   clear H
   go_wp2
   go_meet
   case rel => exact ⟨_, (t238), (by first | rfl | (simp; done) | (simp [*]; done)), H', ⟨by first | omega | exact Nat.le_refl _⟩, ⟨kb BK235⟩, ⟨kb BK236⟩, ⟨kb BK237⟩, ⟨lb3 HB GE235 GE236 GE237⟩⟩
 case rest =>
  clear HC6
  try clear c1; try clear c2; try clear p2; try clear c3; try clear c5; try clear c10; try clear c11; try clear c14; try clear c14b0; try clear c14b1; try clear c16; try clear c17; try clear hcz12_0; try clear hcz12_1; try clear hcz12_2; try clear hcz18_0; try clear hfz12_0; try clear hfz12_1; try clear hfz12_2; try clear hfz18_0
  obtain ⟨kq, x11_5, rfl, HA, HJ5, BK235, BK236, BK237, HB⟩ := hcut
  cases kq with
  | zero => exact absurd HA.out (by simp [crossbarref28_Reserve.j0])
  | succ kj5 =>
   have H := HA.out
   clear HA
   simp only [crossbarref28_Reserve.j0] at H
   by_cases c20 : x11_5 = 0
   ·rw [if_pos c20] at H
    have c20b0 : (x11_5 == 0) = true := beq_iff_eq.mpr c20
    have c20b1 : (x11_5 != 0) = false := bne_eq_false_iff_eq.mpr c20
    clear c20
    have HC21 := Aside0.mk H
    clear H
    go_upto_region 6 with (fail)
    go_cut [41] (fun v41 wc => ∃ (kq : Nat) (x41_20 : Bool), v41 = .bool x41_20 ∧ Aside0 (crossbarref28_Reserve.j1 kq a2 a3 x41_20 a0_0 a0_1 l0_2 l1_0 = some (r1, r2, r3, r4, r5)) ∧ Aside0 (kq ≤ kj5) ∧ Aside0 (wc.heap[gb235]? = some (.cells #[.string a0_0, .int .i64 a0_1, (.slice A0_2 l0_2.length c0_2)] 31 (0, 0))) ∧ Aside0 (wc.heap[gb236]? = some (.cells #[(.slice A1_0 l1_0.length c1_0)] 24 (0, 0))) ∧ Aside0 (wc.heap[gb237]? = some (.cells #[.string (⟨#[]⟩ : ByteArray), .int .i64 0, (.slice none 0 0)] 31 (0, 0))) ∧ Aside0 (Below w.heap.size w wc))
    case first =>
     have H := HC21.out
     clear HC21
     by_cases c22 : a2 < 1
     ·rw [if_pos c22] at H
      have c22b0 : decide (a2 < 1) = true := decide_eq_true c22
      clear c22
      (first | rw [c22b0] | (simp only [i64_w, i32_w]; rw [c22b0]) | skip)
      have H' := Aside0.mk H
      clear H
      go_wp2
      go_meet
      case rel => exact ⟨_, (true), (by first | rfl | (simp; done) | (simp [*]; done)), H', ⟨by have := HJ5.out; first | omega | exact Nat.le_refl _⟩, ⟨kb BK235⟩, ⟨kb BK236⟩, ⟨kb BK237⟩, ⟨lb3 HB GE235 GE236 GE237⟩⟩
     ·rw [if_neg c22] at H
      have c22b0 : decide (a2 < 1) = false := decide_eq_false c22
      clear c22
      (first | rw [c22b0] | (simp only [i64_w, i32_w]; rw [c22b0]) | skip)
      replace H := Option.bind_eq_some_iff.mp H
      obtain ⟨t240, A230, H⟩ := H
      replace H : (if t240 = true then ((crossbarref28_within.f a3).bind fun t241 => (crossbarref28_Reserve.j1 kj5 a2 a3 (!t241) a0_0 a0_1 l0_2 l1_0)) else (crossbarref28_Reserve.j1 kj5 a2 a3 true a0_0 a0_1 l0_2 l1_0)) = some (r1, r2, r3, r4, r5) := H
      have A23 := Aside0.mk A230
      clear A230
      by_cases c24 : t240 = true
      ·subst c24
       have H1 : ((crossbarref28_within.f a3).bind fun t241 => (crossbarref28_Reserve.j1 kj5 a2 a3 (!t241) a0_0 a0_1 l0_2 l1_0)) = some (r1, r2, r3, r4, r5) := by rw [if_pos rfl] at H; exact H
       clear H
       have H := H1
       clear H1
       replace H := Option.bind_eq_some_iff.mp H
       obtain ⟨t241, A250, H⟩ := H
       replace H : (crossbarref28_Reserve.j1 kj5 a2 a3 (!t241) a0_0 a0_1 l0_2 l1_0) = some (r1, r2, r3, r4, r5) := H
       have A25 := Aside0.mk A250
       clear A250
       have H' := Aside0.mk H
       clear H
       go_wp2_with (first | (go_at_call 56; (with_reducible refine (crossbarref28_within.calls a2 true _ A23.out).mono ?_); rintro e w' ⟨rfl, ⟨nd, rfl⟩⟩) | (go_at_call 56; (with_reducible refine (crossbarref28_within.calls a3 t241 _ A25.out).mono ?_); rintro e w' ⟨rfl, ⟨nd, rfl⟩⟩))
       go_meet
       case rel => exact ⟨_, (!t241), (by first | rfl | (simp; done) | (simp [*]; done)), H', ⟨by have := HJ5.out; first | omega | exact Nat.le_refl _⟩, ⟨kb BK235⟩, ⟨kb BK236⟩, ⟨kb BK237⟩, ⟨lb3 HB GE235 GE236 GE237⟩⟩
      ·replace c24 := Bool.eq_false_iff.mpr c24
       subst c24
       have H1 : (crossbarref28_Reserve.j1 kj5 a2 a3 true a0_0 a0_1 l0_2 l1_0) = some (r1, r2, r3, r4, r5) := by rw [if_neg (show ¬ (false = true) by decide)] at H; exact H
       clear H
       have H := H1
       clear H1
       have H' := Aside0.mk H
       clear H
       go_wp2_with (first | (go_at_call 56; (with_reducible refine (crossbarref28_within.calls a2 false _ A23.out).mono ?_); rintro e w' ⟨rfl, ⟨nd, rfl⟩⟩))
       go_meet
       case rel => exact ⟨_, (true), (by first | rfl | (simp; done) | (simp [*]; done)), H', ⟨by have := HJ5.out; first | omega | exact Nat.le_refl _⟩, ⟨kb BK235⟩, ⟨kb BK236⟩, ⟨kb BK237⟩, ⟨lb3 HB GE235 GE236 GE237⟩⟩
    case rest =>
     clear HC21
     try clear c1; try clear c2; try clear p2; try clear c3; try clear c5; try clear c10; try clear c11; try clear c14; try clear c14b0; try clear c14b1; try clear c16; try clear c17; try clear c20; try clear c20b0; try clear c20b1; try clear c22; try clear c22b0; try clear c23; try clear c24; try clear hcz12_0; try clear hcz12_1; try clear hcz12_2; try clear hcz18_0; try clear hfz12_0; try clear hfz12_1; try clear hfz12_2; try clear hfz18_0; try clear p2
     obtain ⟨kq, x41_20, rfl, HA, HJ20, BK235, BK236, BK237, HB⟩ := hcut
     cases kq with
     | zero => exact absurd HA.out (by simp [crossbarref28_Reserve.j1])
     | succ kj20 =>
      have H := HA.out
      clear HA
      simp only [crossbarref28_Reserve.j1] at H
      by_cases c26 : x41_20 = true
      ·subst c26
       have H1 : (some ((⟨#[]⟩ : ByteArray), 0, ([] : List (S54)), 0, 1)) = some (r1, r2, r3, r4, r5) := by rw [if_pos rfl] at H; exact H
       clear H
       have H := H1
       clear H1
       simp only [Option.some.injEq, Prod.mk.injEq] at H
       obtain ⟨rfl, rfl, rfl, rfl, rfl⟩ := H
       have hnb27 := NB237_235.out
       have hnc27 := NB235_237.out
       have hnb28 := NB237_236.out
       have hnc28 := NB236_237.out
       have hcz29_0 := bc BK237 0
       have hcz29_1 := bc BK237 1
       have hcz29_2 := bc BK237 2
       have hfz29_0 := blk_frozen BK237.out 0
       have hfz29_1 := blk_frozen BK237.out 1
       have hfz29_2 := blk_frozen BK237.out 2
       go_wp2
       refine bodyPost_ret (results_ctt rfl _ _ gb237 31 #[.string (⟨#[]⟩ : ByteArray), .int .i64 0, .slice none 0 0] (0, 0) _ rfl (by (with_reducible repeat (first | refine blk_drewN ?_ _ | refine blk_drew ?_ | refine blk_alloc ?_ _)); refine blk_put (cs := #[.string (⟨#[]⟩ : ByteArray), .int .i64 0, .slice none 0 0]) ?_ 2 _ rfl; (with_reducible repeat (first | refine blk_drewN ?_ _ | refine blk_drew ?_ | refine blk_alloc ?_ _)); refine blk_put (cs := #[.string (⟨#[]⟩ : ByteArray), .int .i64 0, .slice none 0 0]) ?_ 1 _ rfl; (with_reducible repeat (first | refine blk_drewN ?_ _ | refine blk_drew ?_ | refine blk_alloc ?_ _)); refine blk_put (cs := #[.string (⟨#[]⟩ : ByteArray), .int .i64 0, .slice none 0 0]) ?_ 0 _ rfl; (with_reducible repeat (first | refine blk_drewN ?_ _ | refine blk_drew ?_ | refine blk_alloc ?_ _)); exact BK237.out) Tryd.underlying31 rfl (by kernel_rfl)) rfl ?_
       exact ⟨_, by first | rfl | (simp [errW_none, errW_some] <;> rfl) | (simp [*, errW_none, errW_some] <;> rfl), by first | exact Kd.R_nil _ _ _ _ _ | exact Kd.N_nil _ _ _ _ _ | exact Kd.V_nil _ _ _ _ _ | exact Kd.Q_nil _ _ _ _ _ | exact Kd.S_nil _ _ _ _ _, lb3 HB GE235 GE236 GE237⟩
      ·replace c26 := Bool.eq_false_iff.mpr c26
       subst c26
       have H1 : ((crossbarref28_Find.f kj20 a0_0 a0_1 l0_2 a2).bind fun t242 => (if t242 < 0 then (crossbarref28_Reserve.j2 kj20 a2 a3 t242 ((l0_2.length : Int) == 1024) a0_0 a0_1 l0_2 l1_0) else (crossbarref28_Reserve.j2 kj20 a2 a3 t242 false a0_0 a0_1 l0_2 l1_0))) = some (r1, r2, r3, r4, r5) := by rw [if_neg (show ¬ (false = true) by decide)] at H; exact H
       clear H
       have H := H1
       clear H1
       replace H := Option.bind_eq_some_iff.mp H
       obtain ⟨t242, A300, H⟩ := H
       replace H : (if t242 < 0 then (crossbarref28_Reserve.j2 kj20 a2 a3 t242 ((l0_2.length : Int) == 1024) a0_0 a0_1 l0_2 l1_0) else (crossbarref28_Reserve.j2 kj20 a2 a3 t242 false a0_0 a0_1 l0_2 l1_0)) = some (r1, r2, r3, r4, r5) := H
       have A30 := Aside0.mk A300
       clear A300
       have HC31 := Aside0.mk H
       clear H
       have hnb32 := NB235_236.out
       have hnc32 := NB236_235.out
       have hnb33 := NB235_237.out
       have hnc33 := NB237_235.out
       have hcz34_0 := bc BK235 0
       have hcz34_1 := bc BK235 1
       have hcz34_2 := bc BK235 2
       have hfz34_0 := blk_frozen BK235.out 0
       have hfz34_1 := blk_frozen BK235.out 1
       have hfz34_2 := blk_frozen BK235.out 2
       go_upto_region 9 with (first | ((with_reducible refine gate_callee (f := 25) rfl ?_); refine goesL_ (some 45) rfl rfl Tryd.func25 (by kernel_rfl) rfl #[.agg #[.string a0_0, .int .i64 a0_1, .slice A0_2 l0_2.length c0_2], .int .i64 a2] rfl (by (try simp only [List.map_toArray, List.map_cons, List.map_nil]); first | done | rfl | (simp only [List.length_drop, List.length_take]; rfl)) ?_; (with_reducible refine (crossbarref28_Find.calls kj20 a0_0 a0_1 _ _ l0_2 a2 t242 _ ?side1 ?side2 A30.out).mono ?_); (case side1 => repeat (first | exact (Kd.C_below HR0_2.out HB.out) | (with_reducible refine Kd.C_alloc ?_ _) | (with_reducible refine Kd.C_drewN ?_ _) | (with_reducible refine Kd.C_drew ?_))); (case side2 => exact HC0_2.out); rintro e w35 ⟨rfl, hb⟩; refine ⟨_, rfl, ?_⟩; have n0_ := kl BK235 hb; have n1_ := kl BK236 hb; have n2_ := kl BK237 hb; have n3_ := ls3 HB GE235 GE236 GE237 hb; clear BK235; clear BK236; clear BK237; clear HB; have BK235 := n0_; have BK236 := n1_; have BK237 := n2_; have HB := n3_; clear n0_ n1_ n2_ n3_; (try clear hb); (try clear hb2); (try clear hk); (try clear hi)))
       (try simp only [Act.put, List.setIfInBounds_toArray, List.set_cons_zero, List.set_cons_succ])
       go_cut [53] (fun v53 wc => ∃ (kq : Nat) (x53_30 : Bool), v53 = .bool x53_30 ∧ Aside0 (crossbarref28_Reserve.j2 kq a2 a3 t242 x53_30 a0_0 a0_1 l0_2 l1_0 = some (r1, r2, r3, r4, r5)) ∧ Aside0 (kq ≤ kj20) ∧ Aside0 (wc.heap[gb235]? = some (.cells #[.string a0_0, .int .i64 a0_1, (.slice A0_2 l0_2.length c0_2)] 31 (0, 0))) ∧ Aside0 (wc.heap[gb236]? = some (.cells #[(.slice A1_0 l1_0.length c1_0)] 24 (0, 0))) ∧ Aside0 (wc.heap[gb237]? = some (.cells #[.string (⟨#[]⟩ : ByteArray), .int .i64 0, (.slice none 0 0)] 31 (0, 0))) ∧ Aside0 (Below w.heap.size w wc))
       case first =>
        have H := HC31.out
        clear HC31
        by_cases c36 : t242 < 0
        ·rw [if_pos c36] at H
         have c36b0 : decide (t242 < 0) = true := decide_eq_true c36
         clear c36
         (first | rw [c36b0] | (simp only [i64_w, i32_w]; rw [c36b0]) | skip)
         have H' := Aside0.mk H
         clear H
         have hnb37 := NB235_236.out
         have hnc37 := NB236_235.out
         have hnb38 := NB235_237.out
         have hnc38 := NB237_235.out
         have hcz39_0 := bc BK235 0
         have hcz39_1 := bc BK235 1
         have hcz39_2 := bc BK235 2
         have hfz39_0 := blk_frozen BK235.out 0
         have hfz39_1 := blk_frozen BK235.out 1
         have hfz39_2 := blk_frozen BK235.out 2
         go_wp2
         go_meet
         case rel => exact ⟨_, (((l0_2.length : Int) == 1024)), (by first | rfl | (simp; done) | (simp [*]; done)), H', ⟨by have := HJ5.out; have := HJ20.out; first | omega | exact Nat.le_refl _⟩, ⟨kb BK235⟩, ⟨kb BK236⟩, ⟨kb BK237⟩, ⟨lb3 HB GE235 GE236 GE237⟩⟩
        ·rw [if_neg c36] at H
         have c36b0 : decide (t242 < 0) = false := decide_eq_false c36
         clear c36
         (first | rw [c36b0] | (simp only [i64_w, i32_w]; rw [c36b0]) | skip)
         have H' := Aside0.mk H
         clear H
         go_wp2
         go_meet
         case rel => exact ⟨_, (false), (by first | rfl | (simp; done) | (simp [*]; done)), H', ⟨by have := HJ5.out; have := HJ20.out; first | omega | exact Nat.le_refl _⟩, ⟨kb BK235⟩, ⟨kb BK236⟩, ⟨kb BK237⟩, ⟨lb3 HB GE235 GE236 GE237⟩⟩
       case rest =>
        clear HC31
        try clear c1; try clear c2; try clear p2; try clear c3; try clear c5; try clear c10; try clear c11; try clear c14; try clear c14b0; try clear c14b1; try clear c16; try clear c17; try clear c20; try clear c20b0; try clear c20b1; try clear c22; try clear c22b0; try clear c23; try clear c24; try clear c25; try clear c26; try clear c27; try clear c28; try clear c30; try clear c32; try clear c33; try clear c36; try clear c36b0; try clear c37; try clear c38; try clear hcz12_0; try clear hcz12_1; try clear hcz12_2; try clear hcz18_0; try clear hcz29_0; try clear hcz29_1; try clear hcz29_2; try clear hcz34_0; try clear hcz34_1; try clear hcz34_2; try clear hcz39_0; try clear hcz39_1; try clear hcz39_2; try clear hfz12_0; try clear hfz12_1; try clear hfz12_2; try clear hfz18_0; try clear hfz29_0; try clear hfz29_1; try clear hfz29_2; try clear hfz34_0; try clear hfz34_1; try clear hfz34_2; try clear hfz39_0; try clear hfz39_1; try clear hfz39_2; try clear p2
        obtain ⟨kq, x53_30, rfl, HA, HJ30, BK235, BK236, BK237, HB⟩ := hcut
        cases kq with
        | zero => exact absurd HA.out (by simp [crossbarref28_Reserve.j2])
        | succ kj30 =>
         have H := HA.out
         clear HA
         simp only [crossbarref28_Reserve.j2] at H
         by_cases c40 : x53_30 = true
         ·subst c40
          have H1 : (some ((⟨#[]⟩ : ByteArray), 0, ([] : List (S54)), 0, 2)) = some (r1, r2, r3, r4, r5) := by rw [if_pos rfl] at H; exact H
          clear H
          have H := H1
          clear H1
          simp only [Option.some.injEq, Prod.mk.injEq] at H
          obtain ⟨rfl, rfl, rfl, rfl, rfl⟩ := H
          have hnb41 := NB237_235.out
          have hnc41 := NB235_237.out
          have hnb42 := NB237_236.out
          have hnc42 := NB236_237.out
          have hcz43_0 := bc BK237 0
          have hcz43_1 := bc BK237 1
          have hcz43_2 := bc BK237 2
          have hfz43_0 := blk_frozen BK237.out 0
          have hfz43_1 := blk_frozen BK237.out 1
          have hfz43_2 := blk_frozen BK237.out 2
          go_wp2
          refine bodyPost_ret (results_ctt rfl _ _ gb237 31 #[.string (⟨#[]⟩ : ByteArray), .int .i64 0, .slice none 0 0] (0, 0) _ rfl (by (with_reducible repeat (first | refine blk_drewN ?_ _ | refine blk_drew ?_ | refine blk_alloc ?_ _)); refine blk_put (cs := #[.string (⟨#[]⟩ : ByteArray), .int .i64 0, .slice none 0 0]) ?_ 2 _ rfl; (with_reducible repeat (first | refine blk_drewN ?_ _ | refine blk_drew ?_ | refine blk_alloc ?_ _)); refine blk_put (cs := #[.string (⟨#[]⟩ : ByteArray), .int .i64 0, .slice none 0 0]) ?_ 1 _ rfl; (with_reducible repeat (first | refine blk_drewN ?_ _ | refine blk_drew ?_ | refine blk_alloc ?_ _)); refine blk_put (cs := #[.string (⟨#[]⟩ : ByteArray), .int .i64 0, .slice none 0 0]) ?_ 0 _ rfl; (with_reducible repeat (first | refine blk_drewN ?_ _ | refine blk_drew ?_ | refine blk_alloc ?_ _)); exact BK237.out) Tryd.underlying31 rfl (by kernel_rfl)) rfl ?_
          exact ⟨_, by first | rfl | (simp [errW_none, errW_some] <;> rfl) | (simp [*, errW_none, errW_some] <;> rfl), by first | exact Kd.R_nil _ _ _ _ _ | exact Kd.N_nil _ _ _ _ _ | exact Kd.V_nil _ _ _ _ _ | exact Kd.Q_nil _ _ _ _ _ | exact Kd.S_nil _ _ _ _ _, lb3 HB GE235 GE236 GE237⟩
         ·replace c40 := Bool.eq_false_iff.mpr c40
          subst c40
          have H1 : (if t242 ≥ 0 then (if 0 ≤ t242 then (if t242 < (l0_2.length : Int) then (crossbarref28_Reserve.j3 kj30 a3 a0_0 a0_1 l0_2 l1_0 ((rd_T54 l0_2 t242).f0) ((rd_T54 l0_2 t242).f1) ((rd_T54 l0_2 t242).f2)) else (none)) else (none)) else (crossbarref28_Reserve.j3 kj30 a3 a0_0 a0_1 l0_2 l1_0 a2 0 a3)) = some (r1, r2, r3, r4, r5) := by rw [if_neg (show ¬ (false = true) by decide)] at H; exact H
          clear H
          have H := H1
          clear H1
          have HC44 := Aside0.mk H
          clear H
          go_upto_if 59 with (first | ((with_reducible refine gate_dst (N := 13) rfl ?_); (try (refine gate_guard (by rfl) ?_; dsimp only)); refine box_event ?hg (N := 13) ?hd (cs := #[.int .i64 0, .int .i64 0, .int .i64 0]) (t := 54) ?hr ?_; (case hd => rfl); (case hg => rfl); (case hr => first | (go_simp; done) | (go_simp; rfl)); intro gb243 hg w45 hbox hb; have n0_ := kl BK235 hb; have n1_ := kl BK236 hb; have n2_ := kl BK237 hb; have n3_ := ls3 HB GE235 GE236 GE237 hb; have n4_ := Aside0.mk (hbox); have n5_ := Aside0.mk ((by rw [hg]; exact (below_size (lb3 HB GE235 GE236 GE237)) : w.heap.size ≤ gb243)); have n6_ := Aside0.mk ((by rw [hg]; exact (below_size (lb3 HB GE235 GE236 GE237)) : w.heap.size ≤ gb243)); have n7_ := kn BK235 hg; have n8_ := km BK235 hg; have n9_ := kn BK236 hg; have n10_ := km BK236 hg; have n11_ := kn BK237 hg; have n12_ := km BK237 hg; clear BK235; clear BK236; clear BK237; clear HB; have BK235 := n0_; have BK236 := n1_; have BK237 := n2_; have HB := n3_; have BK243 := n4_; have GW243 := n5_; have GE243 := n6_; have NB235_243 := n7_; have NB243_235 := n8_; have NB236_243 := n9_; have NB243_236 := n10_; have NB237_243 := n11_; have NB243_237 := n12_; clear n0_ n1_ n2_ n3_ n4_ n5_ n6_ n7_ n8_ n9_ n10_ n11_ n12_; clear hb hbox hg; have hnb46 := NB243_235.out; have hnc46 := NB235_243.out; have hnb47 := NB243_236.out; have hnc47 := NB236_243.out; have hnb48 := NB243_237.out; have hnc48 := NB237_243.out; have hcz49_0 := bc BK243 0; have hcz49_1 := bc BK243 1; have hcz49_2 := bc BK243 2; have hfz49_0 := blk_frozen BK243.out 0; have hfz49_1 := blk_frozen BK243.out 1; have hfz49_2 := blk_frozen BK243.out 2))
          (try simp only [Act.put, List.setIfInBounds_toArray, List.set_cons_zero, List.set_cons_succ])
          go_cut [] (fun wc => ∃ (kq : Nat) (x244000_43 : Int) (x244001_43 : Int) (x244002_43 : Int), Aside0 (crossbarref28_Reserve.j3 kq a3 a0_0 a0_1 l0_2 l1_0 x244000_43 x244001_43 x244002_43 = some (r1, r2, r3, r4, r5)) ∧ Aside0 (kq ≤ kj30) ∧ Aside0 (wc.heap[gb235]? = some (.cells #[.string a0_0, .int .i64 a0_1, (.slice A0_2 l0_2.length c0_2)] 31 (0, 0))) ∧ Aside0 (wc.heap[gb236]? = some (.cells #[(.slice A1_0 l1_0.length c1_0)] 24 (0, 0))) ∧ Aside0 (wc.heap[gb237]? = some (.cells #[.string (⟨#[]⟩ : ByteArray), .int .i64 0, (.slice none 0 0)] 31 (0, 0))) ∧ Aside0 (wc.heap[gb243]? = some (.cells #[.int .i64 x244000_43, .int .i64 x244001_43, .int .i64 x244002_43] 54 (0, 0))) ∧ Aside0 (Below w.heap.size w wc))
          case first =>
           have H := HC44.out
           clear HC44
           by_cases c50 : t242 ≥ 0
           ·rw [if_pos c50] at H
            have c50b0 : decide (0 ≤ t242) = true := decide_eq_true c50
            clear c50
            (first | rw [c50b0] | (simp only [i64_w, i32_w]; rw [c50b0]) | skip)
            by_cases c51 : 0 ≤ t242
            ·rw [if_pos c51] at H
             have c51b0 : decide (0 ≤ t242) = true := decide_eq_true c51
             clear c51
             by_cases c52 : t242 < (l0_2.length : Int)
             ·rw [if_pos c52] at H
              have c52b0 : decide (t242 < (l0_2.length : Int)) = true := decide_eq_true c52
              clear c52
              have H' := Aside0.mk H
              clear H
              have hnb53 := NB235_236.out
              have hnc53 := NB236_235.out
              have hnb54 := NB235_237.out
              have hnc54 := NB237_235.out
              have hnb55 := NB235_243.out
              have hnc55 := NB243_235.out
              have hcz56_0 := bc BK235 0
              have hcz56_1 := bc BK235 1
              have hcz56_2 := bc BK235 2
              have hfz56_0 := blk_frozen BK235.out 0
              have hfz56_1 := blk_frozen BK235.out 1
              have hfz56_2 := blk_frozen BK235.out 2
              have p244 : 0 ≤ (t242 : Int) := of_decide_eq_true (by first | (with_reducible assumption) | assumption)
              have q244 : t242 < (l0_2.length : Int) := of_decide_eq_true (by first | (with_reducible assumption) | assumption)
              obtain ⟨ad244, e244, hx244_0, hx244_1, hx244_2⟩ := at_T54 HR0_2.out t242 p244 q244
              cases e244
              have hn244_0 : ad244.block ≠ gb243 := Nat.ne_of_lt (Nat.lt_of_lt_of_le (by have := World.block_lt_of_cell? _ _ hx244_0; first | rwa [add_block] at this | exact this) GW243.out)
              have hn244_1 : ad244.block ≠ gb243 := Nat.ne_of_lt (Nat.lt_of_lt_of_le (by have := World.block_lt_of_cell? _ _ hx244_0; first | rwa [add_block] at this | exact this) GW243.out)
              have hn244_2 : ad244.block ≠ gb243 := Nat.ne_of_lt (Nat.lt_of_lt_of_le (by have := World.block_lt_of_cell? _ _ hx244_0; first | rwa [add_block] at this | exact this) GW243.out)
              replace hx244_0 := (HB.out.cell (World.block_lt_of_cell? w _ hx244_0)).trans hx244_0
              replace hx244_1 := (HB.out.cell (World.block_lt_of_cell? w _ hx244_1)).trans hx244_1
              replace hx244_2 := (HB.out.cell (World.block_lt_of_cell? w _ hx244_2)).trans hx244_2
              replace hx244_0 := (cell_far (p := ⟨gb243, 0, none⟩) (by first | (rw [add_block]; exact hn244_0) | (show (Addr.add _ _).block ≠ _; rw [add_block]; exact hn244_0) | exact hn244_0) (.int .i64 a2)).trans hx244_0
              replace hx244_1 := (cell_far (p := ⟨gb243, 0, none⟩) (by first | (rw [add_block]; exact hn244_0) | (show (Addr.add _ _).block ≠ _; rw [add_block]; exact hn244_0) | exact hn244_0) (.int .i64 a2)).trans hx244_1
              replace hx244_2 := (cell_far (p := ⟨gb243, 0, none⟩) (by first | (rw [add_block]; exact hn244_0) | (show (Addr.add _ _).block ≠ _; rw [add_block]; exact hn244_0) | exact hn244_0) (.int .i64 a2)).trans hx244_2
              replace hx244_0 := (cell_far (p := ⟨gb243, 1, none⟩) (by first | (rw [add_block]; exact hn244_1) | (show (Addr.add _ _).block ≠ _; rw [add_block]; exact hn244_1) | exact hn244_1) (.int .i64 0)).trans hx244_0
              replace hx244_1 := (cell_far (p := ⟨gb243, 1, none⟩) (by first | (rw [add_block]; exact hn244_1) | (show (Addr.add _ _).block ≠ _; rw [add_block]; exact hn244_1) | exact hn244_1) (.int .i64 0)).trans hx244_1
              replace hx244_2 := (cell_far (p := ⟨gb243, 1, none⟩) (by first | (rw [add_block]; exact hn244_1) | (show (Addr.add _ _).block ≠ _; rw [add_block]; exact hn244_1) | exact hn244_1) (.int .i64 0)).trans hx244_2
              replace hx244_0 := (cell_far (p := ⟨gb243, 2, none⟩) (by first | (rw [add_block]; exact hn244_2) | (show (Addr.add _ _).block ≠ _; rw [add_block]; exact hn244_2) | exact hn244_2) (.int .i64 a3)).trans hx244_0
              replace hx244_1 := (cell_far (p := ⟨gb243, 2, none⟩) (by first | (rw [add_block]; exact hn244_2) | (show (Addr.add _ _).block ≠ _; rw [add_block]; exact hn244_2) | exact hn244_2) (.int .i64 a3)).trans hx244_1
              replace hx244_2 := (cell_far (p := ⟨gb243, 2, none⟩) (by first | (rw [add_block]; exact hn244_2) | (show (Addr.add _ _).block ≠ _; rw [add_block]; exact hn244_2) | exact hn244_2) (.int .i64 a3)).trans hx244_2
              clear hn244_0
              clear hn244_1
              clear hn244_2
              replace p244 := eq_true p244
              replace q244 := eq_true q244
              have hnb57 := NB243_236.out
              have hnc57 := NB236_243.out
              have hnb58 := NB243_237.out
              have hnc58 := NB237_243.out
              have hcz59_0 := bc BK243 0
              have hcz59_1 := bc BK243 1
              have hcz59_2 := bc BK243 2
              have hfz59_0 := blk_frozen BK243.out 0
              have hfz59_1 := blk_frozen BK243.out 1
              have hfz59_2 := blk_frozen BK243.out 2
              go_wp2
              go_meet
              case rel => exact ⟨_, ((rd_T54 l0_2 t242).f0), ((rd_T54 l0_2 t242).f1), ((rd_T54 l0_2 t242).f2), H', ⟨by have := HJ5.out; have := HJ20.out; have := HJ30.out; first | omega | exact Nat.le_refl _⟩, ⟨kf1 BK235 NB235_243⟩, ⟨kf1 BK236 NB236_243⟩, ⟨kf1 BK237 NB237_243⟩, ⟨by (with_reducible repeat (first | refine blk_drewN ?_ _ | refine blk_drew ?_ | refine blk_alloc ?_ _)); refine blk_put (cs := #[.int .i64 ((rd_T54 l0_2 t242).f0), .int .i64 ((rd_T54 l0_2 t242).f1), .int .i64 a3]) ?_ 2 _ rfl; (with_reducible repeat (first | refine blk_drewN ?_ _ | refine blk_drew ?_ | refine blk_alloc ?_ _)); refine blk_put (cs := #[.int .i64 ((rd_T54 l0_2 t242).f0), .int .i64 0, .int .i64 a3]) ?_ 1 _ rfl; (with_reducible repeat (first | refine blk_drewN ?_ _ | refine blk_drew ?_ | refine blk_alloc ?_ _)); refine blk_put (cs := #[.int .i64 a2, .int .i64 0, .int .i64 a3]) ?_ 0 _ rfl; (with_reducible repeat (first | refine blk_drewN ?_ _ | refine blk_drew ?_ | refine blk_alloc ?_ _)); refine blk_put (cs := #[.int .i64 a2, .int .i64 0, .int .i64 0]) ?_ 2 _ rfl; (with_reducible repeat (first | refine blk_drewN ?_ _ | refine blk_drew ?_ | refine blk_alloc ?_ _)); refine blk_put (cs := #[.int .i64 a2, .int .i64 0, .int .i64 0]) ?_ 1 _ rfl; (with_reducible repeat (first | refine blk_drewN ?_ _ | refine blk_drew ?_ | refine blk_alloc ?_ _)); refine blk_put (cs := #[.int .i64 0, .int .i64 0, .int .i64 0]) ?_ 0 _ rfl; (with_reducible repeat (first | refine blk_drewN ?_ _ | refine blk_drew ?_ | refine blk_alloc ?_ _)); exact BK243.out⟩, ⟨lb4 HB GE235 GE236 GE237 GE243⟩⟩
             ·rw [if_neg c52] at H
              exact absurd H (by simp)
            ·rw [if_neg c51] at H
             exact absurd H (by simp)
           ·rw [if_neg c50] at H
            have c50b0 : decide (0 ≤ t242) = false := decide_eq_false c50
            clear c50
            (first | rw [c50b0] | (simp only [i64_w, i32_w]; rw [c50b0]) | skip)
            have H' := Aside0.mk H
            clear H
            go_wp2
            go_meet
            case rel => exact ⟨_, (a2), (0), (a3), H', ⟨by have := HJ5.out; have := HJ20.out; have := HJ30.out; first | omega | exact Nat.le_refl _⟩, ⟨kf1 BK235 NB235_243⟩, ⟨kf1 BK236 NB236_243⟩, ⟨kf1 BK237 NB237_243⟩, ⟨by (with_reducible repeat (first | refine blk_drewN ?_ _ | refine blk_drew ?_ | refine blk_alloc ?_ _)); refine blk_put (cs := #[.int .i64 a2, .int .i64 0, .int .i64 0]) ?_ 2 _ rfl; (with_reducible repeat (first | refine blk_drewN ?_ _ | refine blk_drew ?_ | refine blk_alloc ?_ _)); refine blk_put (cs := #[.int .i64 a2, .int .i64 0, .int .i64 0]) ?_ 1 _ rfl; (with_reducible repeat (first | refine blk_drewN ?_ _ | refine blk_drew ?_ | refine blk_alloc ?_ _)); refine blk_put (cs := #[.int .i64 0, .int .i64 0, .int .i64 0]) ?_ 0 _ rfl; (with_reducible repeat (first | refine blk_drewN ?_ _ | refine blk_drew ?_ | refine blk_alloc ?_ _)); exact BK243.out⟩, ⟨lb4 HB GE235 GE236 GE237 GE243⟩⟩
          case rest =>
           clear HC44
           try clear c1; try clear c2; try clear p2; try clear q2; try clear hx2; try clear c3; try clear c4; try clear c5; try clear c10; try clear c11; try clear c14; try clear c14b0; try clear c14b1; try clear c16; try clear c17; try clear c20; try clear c20b0; try clear c20b1; try clear c22; try clear c22b0; try clear c23; try clear c24; try clear p24; try clear q24; try clear hx24; try clear c25; try clear c26; try clear c27; try clear c28; try clear c30; try clear c32; try clear c33; try clear c36; try clear c36b0; try clear c37; try clear c38; try clear c40; try clear c41; try clear c42; try clear c46; try clear c47; try clear c48; try clear c50; try clear c50b0; try clear c51; try clear c51b0; try clear c52; try clear c52b0; try clear c53; try clear c54; try clear c55; try clear c57; try clear c58; try clear hcz12_0; try clear hcz12_1; try clear hcz12_2; try clear hcz18_0; try clear hcz29_0; try clear hcz29_1; try clear hcz29_2; try clear hcz34_0; try clear hcz34_1; try clear hcz34_2; try clear hcz39_0; try clear hcz39_1; try clear hcz39_2; try clear hcz43_0; try clear hcz43_1; try clear hcz43_2; try clear hcz49_0; try clear hcz49_1; try clear hcz49_2; try clear hcz56_0; try clear hcz56_1; try clear hcz56_2; try clear hcz59_0; try clear hcz59_1; try clear hcz59_2; try clear hfz12_0; try clear hfz12_1; try clear hfz12_2; try clear hfz18_0; try clear hfz29_0; try clear hfz29_1; try clear hfz29_2; try clear hfz34_0; try clear hfz34_1; try clear hfz34_2; try clear hfz39_0; try clear hfz39_1; try clear hfz39_2; try clear hfz43_0; try clear hfz43_1; try clear hfz43_2; try clear hfz49_0; try clear hfz49_1; try clear hfz49_2; try clear hfz56_0; try clear hfz56_1; try clear hfz56_2; try clear hfz59_0; try clear hfz59_1; try clear hfz59_2; try clear hx244_0; try clear hx244_1; try clear hx244_2; try clear p2; try clear p244; try clear q244
           obtain ⟨kq, x244000_43, x244001_43, x244002_43, HA, HJ43, BK235, BK236, BK237, BK243, HB⟩ := hcut
           cases kq with
           | zero => exact absurd HA.out (by simp [crossbarref28_Reserve.j3])
           | succ kj43 =>
            have H := HA.out
            clear HA
            simp only [crossbarref28_Reserve.j3] at H
            obtain ⟨ji60, hji60⟩ : ∃ j_ : Int, (mx 0 (wrap64 (a3 - x244002_43))) = j_ := ⟨_, rfl⟩
            replace H : ((crossbarref26_Afford.f kj43 l1_0 x244002_43 a0_1 (mn (wrap64 (30 + (ji60))) (wrap64 (1099511627776 - x244002_43)))).bind fun bt245 => (if bt245.1 = 0 then (crossbarref28_Reserve.j4 kj43 x244002_43 bt245.1 true a0_0 a0_1 l0_2 l1_0 x244000_43 x244001_43 x244002_43) else (crossbarref28_Reserve.j4 kj43 x244002_43 bt245.1 (decide ((wrap64 (x244002_43 + bt245.1)) ≤ a3)) a0_0 a0_1 l0_2 l1_0 x244000_43 x244001_43 x244002_43))) = some (r1, r2, r3, r4, r5) := by first | (rw [hji60] at H; exact H) | (simp only [hji60] at H ⊢; exact H)
            have hji60_ : (if 0 < (wrap64 (a3 - x244002_43)) then (wrap64 (a3 - x244002_43)) else 0) = ji60 := hji60
            obtain ⟨ji61, hji61⟩ : ∃ j_ : Int, (mn (wrap64 (30 + (ji60))) (wrap64 (1099511627776 - x244002_43))) = j_ := ⟨_, rfl⟩
            replace H : ((crossbarref26_Afford.f kj43 l1_0 x244002_43 a0_1 (ji61)).bind fun bt245 => (if bt245.1 = 0 then (crossbarref28_Reserve.j4 kj43 x244002_43 bt245.1 true a0_0 a0_1 l0_2 l1_0 x244000_43 x244001_43 x244002_43) else (crossbarref28_Reserve.j4 kj43 x244002_43 bt245.1 (decide ((wrap64 (x244002_43 + bt245.1)) ≤ a3)) a0_0 a0_1 l0_2 l1_0 x244000_43 x244001_43 x244002_43))) = some (r1, r2, r3, r4, r5) := by first | (rw [hji61] at H; exact H) | (simp only [hji61] at H ⊢; exact H)
            have hji61_ : (if (wrap64 (1099511627776 - x244002_43)) < (wrap64 (30 + (ji60))) then (wrap64 (1099511627776 - x244002_43)) else (wrap64 (30 + (ji60)))) = ji61 := hji61
            replace H := Option.bind_eq_some_iff.mp H
            obtain ⟨⟨t245, t246⟩, A620, H⟩ := H
            replace H : (if t245 = 0 then (crossbarref28_Reserve.j4 kj43 x244002_43 t245 true a0_0 a0_1 l0_2 l1_0 x244000_43 x244001_43 x244002_43) else (crossbarref28_Reserve.j4 kj43 x244002_43 t245 (decide ((wrap64 (x244002_43 + t245)) ≤ a3)) a0_0 a0_1 l0_2 l1_0 x244000_43 x244001_43 x244002_43)) = some (r1, r2, r3, r4, r5) := H
            have A62 := Aside0.mk A620
            clear A620
            have HC63 := Aside0.mk H
            clear H
            have hnb64 := NB243_235.out
            have hnc64 := NB235_243.out
            have hnb65 := NB243_236.out
            have hnc65 := NB236_243.out
            have hnb66 := NB243_237.out
            have hnc66 := NB237_243.out
            have hcz67_0 := bc BK243 0
            have hcz67_1 := bc BK243 1
            have hcz67_2 := bc BK243 2
            have hfz67_0 := blk_frozen BK243.out 0
            have hfz67_1 := blk_frozen BK243.out 1
            have hfz67_2 := blk_frozen BK243.out 2
            have hnb68 := NB236_235.out
            have hnc68 := NB235_236.out
            have hnb69 := NB236_237.out
            have hnc69 := NB237_236.out
            have hcz70_0 := bc BK236 0
            have hfz70_0 := blk_frozen BK236.out 0
            have hnb71 := NB235_237.out
            have hnc71 := NB237_235.out
            have hcz72_0 := bc BK235 0
            have hcz72_1 := bc BK235 1
            have hcz72_2 := bc BK235 2
            have hfz72_0 := blk_frozen BK235.out 0
            have hfz72_1 := blk_frozen BK235.out 1
            have hfz72_2 := blk_frozen BK235.out 2
            go_upto_region 17 with (first | ((with_reducible refine gate_callee (f := 57) rfl ?_); refine goesL_ (some 81) rfl rfl Tryd.func57 (by kernel_rfl) rfl #[.agg #[.slice A1_0 l1_0.length c1_0], .int .i64 x244002_43, .int .i64 a0_1, .int .i64 ji61] rfl (by (try simp only [List.map_toArray, List.map_cons, List.map_nil]); first | done | (simp only [hji61]; rfl) | rfl | (simp only [List.length_drop, List.length_take]; rfl)) ?_; (with_reducible refine (crossbarref26_Afford.calls kj43 _ _ l1_0 x244002_43 a0_1 ji61 t245 t246 _ ?side1 ?side2 A62.out).mono ?_); (case side1 => repeat (first | exact (Kd.C_below HR1_0.out HB.out) | (with_reducible refine Kd.C_alloc ?_ _) | (with_reducible refine Kd.C_drewN ?_ _) | (with_reducible refine Kd.C_drew ?_))); (case side2 => exact HC1_0.out); rintro e w73 ⟨rfl, hb⟩; refine ⟨_, rfl, ?_⟩; have n0_ := kl BK235 hb; have n1_ := kl BK236 hb; have n2_ := kl BK237 hb; have n3_ := kl BK243 hb; have n4_ := ls4 HB GE235 GE236 GE237 GE243 hb; clear BK235; clear BK236; clear BK237; clear BK243; clear HB; have BK235 := n0_; have BK236 := n1_; have BK237 := n2_; have BK243 := n3_; have HB := n4_; clear n0_ n1_ n2_ n3_ n4_; (try clear hb); (try clear hb2); (try clear hk); (try clear hi)))
            (try simp only [Act.put, List.setIfInBounds_toArray, List.set_cons_zero, List.set_cons_succ])
            go_cut [92] (fun v92 wc => ∃ (kq : Nat) (x92_62 : Bool), v92 = .bool x92_62 ∧ Aside0 (crossbarref28_Reserve.j4 kq x244002_43 t245 x92_62 a0_0 a0_1 l0_2 l1_0 x244000_43 x244001_43 x244002_43 = some (r1, r2, r3, r4, r5)) ∧ Aside0 (kq ≤ kj43) ∧ Aside0 (wc.heap[gb235]? = some (.cells #[.string a0_0, .int .i64 a0_1, (.slice A0_2 l0_2.length c0_2)] 31 (0, 0))) ∧ Aside0 (wc.heap[gb236]? = some (.cells #[(.slice A1_0 l1_0.length c1_0)] 24 (0, 0))) ∧ Aside0 (wc.heap[gb237]? = some (.cells #[.string (⟨#[]⟩ : ByteArray), .int .i64 0, (.slice none 0 0)] 31 (0, 0))) ∧ Aside0 (wc.heap[gb243]? = some (.cells #[.int .i64 x244000_43, .int .i64 x244001_43, .int .i64 x244002_43] 54 (0, 0))) ∧ Aside0 (Below w.heap.size w wc))
            case first =>
             have H := HC63.out
             clear HC63
             by_cases c74 : t245 = 0
             ·rw [if_pos c74] at H
              have c74b0 : (t245 == 0) = true := beq_iff_eq.mpr c74
              have c74b1 : (t245 != 0) = false := bne_eq_false_iff_eq.mpr c74
              clear c74
              (first | rw [c74b0] | (simp only [i64_w, i32_w]; rw [c74b0]) | skip)
              have H' := Aside0.mk H
              clear H
              go_wp2
              go_meet
              case rel => exact ⟨_, (true), (by first | rfl | (simp; done) | (simp [*]; done)), H', ⟨by have := HJ5.out; have := HJ20.out; have := HJ30.out; have := HJ43.out; first | omega | exact Nat.le_refl _⟩, ⟨kb BK235⟩, ⟨kb BK236⟩, ⟨kb BK237⟩, ⟨kb BK243⟩, ⟨lb4 HB GE235 GE236 GE237 GE243⟩⟩
             ·rw [if_neg c74] at H
              have c74b0 : (t245 == 0) = false := beq_eq_false_iff_ne.mpr c74
              have c74b1 : (t245 != 0) = true := bne_iff_ne.mpr c74
              (first | rw [c74b0] | (simp only [i64_w, i32_w]; rw [c74b0]) | skip)
              have H' := Aside0.mk H
              clear H
              go_wp2
              go_meet
              case rel => exact ⟨_, (decide ((wrap64 (x244002_43 + t245)) ≤ a3)), (by first | rfl | (simp; done) | (simp [*]; done)), H', ⟨by have := HJ5.out; have := HJ20.out; have := HJ30.out; have := HJ43.out; first | omega | exact Nat.le_refl _⟩, ⟨kb BK235⟩, ⟨kb BK236⟩, ⟨kb BK237⟩, ⟨kb BK243⟩, ⟨lb4 HB GE235 GE236 GE237 GE243⟩⟩
            case rest =>
             clear HC63
             try clear c1; try clear c2; try clear p2; try clear q2; try clear hx2; try clear c3; try clear c4; try clear c5; try clear c6; try clear p6; try clear c7; try clear c10; try clear c11; try clear c14; try clear c14b0; try clear c14b1; try clear c16; try clear c17; try clear c20; try clear c20b0; try clear c20b1; try clear c22; try clear c22b0; try clear c23; try clear c24; try clear p24; try clear q24; try clear hx24; try clear c25; try clear c26; try clear c27; try clear c28; try clear c30; try clear c32; try clear c33; try clear c36; try clear c36b0; try clear c37; try clear c38; try clear c40; try clear c41; try clear c42; try clear c46; try clear c47; try clear c48; try clear c50; try clear c50b0; try clear c51; try clear c51b0; try clear c52; try clear c52b0; try clear c53; try clear c54; try clear c55; try clear c57; try clear c58; try clear c64; try clear p64; try clear c65; try clear c66; try clear c68; try clear c69; try clear c71; try clear c74; try clear c74b0; try clear c74b1; try clear hcz12_0; try clear hcz12_1; try clear hcz12_2; try clear hcz18_0; try clear hcz29_0; try clear hcz29_1; try clear hcz29_2; try clear hcz34_0; try clear hcz34_1; try clear hcz34_2; try clear hcz39_0; try clear hcz39_1; try clear hcz39_2; try clear hcz43_0; try clear hcz43_1; try clear hcz43_2; try clear hcz49_0; try clear hcz49_1; try clear hcz49_2; try clear hcz56_0; try clear hcz56_1; try clear hcz56_2; try clear hcz59_0; try clear hcz59_1; try clear hcz59_2; try clear hcz67_0; try clear hcz67_1; try clear hcz67_2; try clear hcz70_0; try clear hcz72_0; try clear hcz72_1; try clear hcz72_2; try clear hfz12_0; try clear hfz12_1; try clear hfz12_2; try clear hfz18_0; try clear hfz29_0; try clear hfz29_1; try clear hfz29_2; try clear hfz34_0; try clear hfz34_1; try clear hfz34_2; try clear hfz39_0; try clear hfz39_1; try clear hfz39_2; try clear hfz43_0; try clear hfz43_1; try clear hfz43_2; try clear hfz49_0; try clear hfz49_1; try clear hfz49_2; try clear hfz56_0; try clear hfz56_1; try clear hfz56_2; try clear hfz59_0; try clear hfz59_1; try clear hfz59_2; try clear hfz67_0; try clear hfz67_1; try clear hfz67_2; try clear hfz70_0; try clear hfz72_0; try clear hfz72_1; try clear hfz72_2; try clear hx244_0; try clear hx244_1; try clear hx244_2; try clear p2; try clear p24; try clear p244; try clear q2; try clear q24; try clear q244
             obtain ⟨kq, x92_62, rfl, HA, HJ62, BK235, BK236, BK237, BK243, HB⟩ := hcut
             cases kq with
             | zero => exact absurd HA.out (by simp [crossbarref28_Reserve.j4])
             | succ kj62 =>
              have H := HA.out
              clear HA
              simp only [crossbarref28_Reserve.j4] at H
              by_cases c75 : x92_62 = true
              ·subst c75
               have H1 : (some ((⟨#[]⟩ : ByteArray), 0, ([] : List (S54)), 0, 280)) = some (r1, r2, r3, r4, r5) := by rw [if_pos rfl] at H; exact H
               clear H
               have H := H1
               clear H1
               simp only [Option.some.injEq, Prod.mk.injEq] at H
               obtain ⟨rfl, rfl, rfl, rfl, rfl⟩ := H
               have hnb76 := NB237_235.out
               have hnc76 := NB235_237.out
               have hnb77 := NB237_236.out
               have hnc77 := NB236_237.out
               have hnb78 := NB237_243.out
               have hnc78 := NB243_237.out
               have hcz79_0 := bc BK237 0
               have hcz79_1 := bc BK237 1
               have hcz79_2 := bc BK237 2
               have hfz79_0 := blk_frozen BK237.out 0
               have hfz79_1 := blk_frozen BK237.out 1
               have hfz79_2 := blk_frozen BK237.out 2
               go_wp2
               refine bodyPost_ret (results_ctt rfl _ _ gb237 31 #[.string (⟨#[]⟩ : ByteArray), .int .i64 0, .slice none 0 0] (0, 0) _ rfl (by (with_reducible repeat (first | refine blk_drewN ?_ _ | refine blk_drew ?_ | refine blk_alloc ?_ _)); refine blk_put (cs := #[.string (⟨#[]⟩ : ByteArray), .int .i64 0, .slice none 0 0]) ?_ 2 _ rfl; (with_reducible repeat (first | refine blk_drewN ?_ _ | refine blk_drew ?_ | refine blk_alloc ?_ _)); refine blk_put (cs := #[.string (⟨#[]⟩ : ByteArray), .int .i64 0, .slice none 0 0]) ?_ 1 _ rfl; (with_reducible repeat (first | refine blk_drewN ?_ _ | refine blk_drew ?_ | refine blk_alloc ?_ _)); refine blk_put (cs := #[.string (⟨#[]⟩ : ByteArray), .int .i64 0, .slice none 0 0]) ?_ 0 _ rfl; (with_reducible repeat (first | refine blk_drewN ?_ _ | refine blk_drew ?_ | refine blk_alloc ?_ _)); exact BK237.out) Tryd.underlying31 rfl (by kernel_rfl)) rfl ?_
               exact ⟨_, by first | rfl | (simp [errW_none, errW_some] <;> rfl) | (simp only [← hji60, ← hji61]; first | rfl | (simp [errW_none, errW_some] <;> rfl)) | (simp [*, errW_none, errW_some] <;> rfl), by first | exact Kd.R_nil _ _ _ _ _ | exact Kd.N_nil _ _ _ _ _ | exact Kd.V_nil _ _ _ _ _ | exact Kd.Q_nil _ _ _ _ _ | exact Kd.S_nil _ _ _ _ _, lb4 HB GE235 GE236 GE237 GE243⟩
              ·replace c75 := Bool.eq_false_iff.mpr c75
               subst c75
               have H1 : ((crossbarref26_Price.f kj62 l1_0 x244002_43 (wrap64 (x244002_43 + t245))).bind fun bt247 => ((crossbarref28_with.f kj62 l0_2 x244000_43 (wrap64 (x244001_43 + bt247.1)) (wrap64 (x244002_43 + t245))).bind fun t249 => (some (a0_0, wrap64 (a0_1 - bt247.1), t249, wrap64 (x244002_43 + t245), 0)))) = some (r1, r2, r3, r4, r5) := by rw [if_neg (show ¬ (false = true) by decide)] at H; exact H
               clear H
               have H := H1
               clear H1
               replace H := Option.bind_eq_some_iff.mp H
               obtain ⟨⟨t247, t248⟩, A800, H⟩ := H
               replace H : ((crossbarref28_with.f kj62 l0_2 x244000_43 (wrap64 (x244001_43 + t247)) (wrap64 (x244002_43 + t245))).bind fun t249 => (some (a0_0, wrap64 (a0_1 - t247), t249, wrap64 (x244002_43 + t245), 0))) = some (r1, r2, r3, r4, r5) := H
               have A80 := Aside0.mk A800
               clear A800
               replace H := Option.bind_eq_some_iff.mp H
               obtain ⟨t249, A810, H⟩ := H
               replace H : (some (a0_0, wrap64 (a0_1 - t247), t249, wrap64 (x244002_43 + t245), 0)) = some (r1, r2, r3, r4, r5) := H
               have A81 := Aside0.mk A810
               clear A810
               simp only [Option.some.injEq, Prod.mk.injEq] at H
               obtain ⟨rfl, rfl, rfl, rfl, rfl⟩ := H
               have hnb82 := NB236_235.out
               have hnc82 := NB235_236.out
               have hnb83 := NB236_237.out
               have hnc83 := NB237_236.out
               have hnb84 := NB236_243.out
               have hnc84 := NB243_236.out
               have hcz85_0 := bc BK236 0
               have hfz85_0 := blk_frozen BK236.out 0
               try go_wp2_with (first | ((with_reducible refine gate_callee (f := 58) rfl ?_); refine goesL_ (some 100) rfl rfl Tryd.func58 (by kernel_rfl) rfl #[.agg #[.slice A1_0 l1_0.length c1_0], .int .i64 x244002_43, .int .i64 (wrap64 (x244002_43 + t245))] rfl (by (try simp only [List.map_toArray, List.map_cons, List.map_nil]); first | done | rfl | (simp only [List.length_drop, List.length_take]; rfl)) ?_; (with_reducible refine (crossbarref26_Price.calls kj62 _ _ l1_0 x244002_43 (wrap64 (x244002_43 + t245)) t247 t248 _ ?side1 ?side2 A80.out).mono ?_); (case side1 => repeat (first | exact (Kd.C_below HR1_0.out HB.out) | (with_reducible refine Kd.C_alloc ?_ _) | (with_reducible refine Kd.C_drewN ?_ _) | (with_reducible refine Kd.C_drew ?_))); (case side2 => exact HC1_0.out); rintro e w86 ⟨rfl, hb⟩; refine ⟨_, rfl, ?_⟩; have n0_ := kl BK235 hb; have n1_ := kl BK236 hb; have n2_ := kl BK237 hb; have n3_ := kl BK243 hb; have n4_ := ls4 HB GE235 GE236 GE237 GE243 hb; clear BK235; clear BK236; clear BK237; clear BK243; clear HB; have BK235 := n0_; have BK236 := n1_; have BK237 := n2_; have BK243 := n3_; have HB := n4_; clear n0_ n1_ n2_ n3_ n4_; (try clear hb); (try clear hb2); (try clear hk); (try clear hi); have hnb87 := NB243_235.out; have hnc87 := NB235_243.out; have hnb88 := NB243_237.out; have hnc88 := NB237_243.out; have hcz89_0 := bc BK243 0; have hcz89_1 := bc BK243 1; have hcz89_2 := bc BK243 2; have hfz89_0 := blk_frozen BK243.out 0; have hfz89_1 := blk_frozen BK243.out 1; have hfz89_2 := blk_frozen BK243.out 2))
               have n0_ : Aside0 (((w86.setCell ⟨gb243, 1, none⟩ (.int .i64 (wrap64 (x244001_43 + t247)))).setCell ⟨gb243, 2, none⟩ (.int .i64 (wrap64 (x244002_43 + t245)))).heap[gb235]? = some (.cells #[.string a0_0, .int .i64 a0_1, .slice A0_2 l0_2.length c0_2] 31 (0, 0))) := ⟨kf1 BK235 NB235_243⟩
               have n1_ : Aside0 (((w86.setCell ⟨gb243, 1, none⟩ (.int .i64 (wrap64 (x244001_43 + t247)))).setCell ⟨gb243, 2, none⟩ (.int .i64 (wrap64 (x244002_43 + t245)))).heap[gb236]? = some (.cells #[.slice A1_0 l1_0.length c1_0] 24 (0, 0))) := ⟨kf1 BK236 NB236_243⟩
               have n2_ : Aside0 (((w86.setCell ⟨gb243, 1, none⟩ (.int .i64 (wrap64 (x244001_43 + t247)))).setCell ⟨gb243, 2, none⟩ (.int .i64 (wrap64 (x244002_43 + t245)))).heap[gb237]? = some (.cells #[.string (⟨#[]⟩ : ByteArray), .int .i64 0, .slice none 0 0] 31 (0, 0))) := ⟨kf1 BK237 NB237_243⟩
               have n3_ : Aside0 (((w86.setCell ⟨gb243, 1, none⟩ (.int .i64 (wrap64 (x244001_43 + t247)))).setCell ⟨gb243, 2, none⟩ (.int .i64 (wrap64 (x244002_43 + t245)))).heap[gb243]? = some (.cells #[.int .i64 x244000_43, .int .i64 (wrap64 (x244001_43 + t247)), .int .i64 (wrap64 (x244002_43 + t245))] 54 (0, 0))) := ⟨by (with_reducible repeat (first | refine blk_drewN ?_ _ | refine blk_drew ?_ | refine blk_alloc ?_ _)); refine blk_put (cs := #[.int .i64 x244000_43, .int .i64 (wrap64 (x244001_43 + t247)), .int .i64 x244002_43]) ?_ 2 _ rfl; (with_reducible repeat (first | refine blk_drewN ?_ _ | refine blk_drew ?_ | refine blk_alloc ?_ _)); refine blk_put (cs := #[.int .i64 x244000_43, .int .i64 x244001_43, .int .i64 x244002_43]) ?_ 1 _ rfl; (with_reducible repeat (first | refine blk_drewN ?_ _ | refine blk_drew ?_ | refine blk_alloc ?_ _)); exact BK243.out⟩
               have n4_ : Aside0 (Below w.heap.size w ((w86.setCell ⟨gb243, 1, none⟩ (.int .i64 (wrap64 (x244001_43 + t247)))).setCell ⟨gb243, 2, none⟩ (.int .i64 (wrap64 (x244002_43 + t245))))) := ⟨lb4 HB GE235 GE236 GE237 GE243⟩
               (try clear BK235)
               (try clear BK236)
               (try clear BK237)
               (try clear BK243)
               (try clear HB)
               generalize ((w86.setCell ⟨gb243, 1, none⟩ (.int .i64 (wrap64 (x244001_43 + t247)))).setCell ⟨gb243, 2, none⟩ (.int .i64 (wrap64 (x244002_43 + t245)))) = w90 at n0_ n1_ n2_ n3_ n4_ ⊢
               have BK235 := n0_
               have BK236 := n1_
               have BK237 := n2_
               have BK243 := n3_
               have HB := n4_
               clear n0_ n1_ n2_ n3_ n4_
               have n0_ := Aside0.mk (blk_drew BK235.out)
               have n1_ := Aside0.mk (blk_drew BK236.out)
               have n2_ := Aside0.mk (blk_drew BK237.out)
               have n3_ := Aside0.mk (blk_drew BK243.out)
               have n4_ := Aside0.mk (below_drew1 HB.out)
               clear BK235
               clear BK236
               clear BK237
               clear BK243
               clear HB
               have BK235 := n0_
               have BK236 := n1_
               have BK237 := n2_
               have BK243 := n3_
               have HB := n4_
               clear n0_ n1_ n2_ n3_ n4_
               refine start_ (n := 16) (S := fun w' => w'.cell? ⟨gb235, 0, none⟩ = some (.string a0_0) ∧ w'.cell? ⟨gb235, 1, none⟩ = some (.int .i64 a0_1) ∧ w'.cell? ⟨gb235, 2, none⟩ = some (.slice A0_2 l0_2.length c0_2) ∧ w'.cell? ⟨gb243, 0, none⟩ = some (.int .i64 x244000_43) ∧ w'.cell? ⟨gb243, 1, none⟩ = some (.int .i64 (wrap64 (x244001_43 + t247))) ∧ w'.cell? ⟨gb243, 2, none⟩ = some (.int .i64 (wrap64 (x244002_43 + t245)))) (ds := []) #[false, false, false, false, false, false, false, false, false, false, false, false, false, false, false, false] (by kernel_rfl) rfl rfl ⟨(blk_cell BK235.out 0).trans rfl, (blk_cell BK235.out 1).trans rfl, (blk_cell BK235.out 2).trans rfl, (blk_cell BK243.out 0).trans rfl, (blk_cell BK243.out 1).trans rfl, (blk_cell BK243.out 2).trans rfl⟩ (fun hHeld => ?_); refine with_tabW crossbarref28_Reserve.tab22 crossbarref28_Reserve.bits22 (fun HT_ HW_ => ?_)
               generalize w90.drew = w91 at BK235 BK236 BK237 BK243 HB hHeld ⊢
               refine p_ 0 112 HT_ ?_
               refine p_ 2 114 HT_ ?_
               refine p_ 4 116 HT_ ?_
               refine p_ 6 118 HT_ ?_
               refine p_ 11 123 HT_ ?_
               refine t_ 1 113 HT_ HW_ rfl rfl hHeld (by rintro w' ⟨s0, s1, s2, s3, s4, s5⟩; go_simp; with_reducible rfl) ?_
               refine t_ 3 115 HT_ HW_ rfl rfl hHeld (by rintro w' ⟨s0, s1, s2, s3, s4, s5⟩; go_simp; with_reducible rfl) ?_
               refine p_ 5 117 HT_ ?_
               refine t_ 7 119 HT_ HW_ rfl rfl hHeld (by rintro w' ⟨s0, s1, s2, s3, s4, s5⟩; go_simp; with_reducible rfl) ?_
               refine t_ 8 120 HT_ HW_ rfl rfl hHeld (by rintro w' ⟨s0, s1, s2, s3, s4, s5⟩; go_simp; with_reducible rfl) ?_
               refine t_ 12 124 HT_ HW_ rfl rfl hHeld (by rintro w' ⟨s0, s1, s2, s3, s4, s5⟩; go_simp; with_reducible rfl) ?_
               refine o_ 9 121 HT_ (fun K hK => ?_)
               refine goes_ Tryd.func59 (by kernel_rfl) rfl #[.slice A0_2 l0_2.length c0_2, .agg #[.int .i64 x244000_43, .int .i64 (wrap64 (x244001_43 + t247)), .int .i64 (wrap64 (x244002_43 + t245))]] (by rfl) rfl rfl (by (try simp only [List.map_toArray, List.map_cons, List.map_nil]); first | done | rfl | (simp only [List.length_drop, List.length_take]; rfl)) ?_
               with_reducible refine (crossbarref28_with.calls kj62 _ _ l0_2 x244000_43 (wrap64 (x244001_43 + t247)) (wrap64 (x244002_43 + t245)) t249 _ ?side1 ?side2 A81.out).mono ?_
               (case side1 => repeat (first | exact (Kd.C_below HR0_2.out HB.out) | (with_reducible refine Kd.C_alloc ?_ _) | (with_reducible refine Kd.C_drewN ?_ _) | (with_reducible refine Kd.C_drew ?_)))
               (case side2 => exact HC0_2.out)
               rintro e w92 ⟨v250, rfl, ho0, hb⟩
               refine ⟨_, rfl, ?_⟩
               have n0_ := Aside0.mk (Kd.R_lower (Kd.R_newB ho0 (g := gb243) (o := .cells #[.int .i64 x244000_43, .int .i64 (wrap64 (x244001_43 + t247)), .int .i64 (wrap64 (x244002_43 + t245))] 54 (0, 0)) (kb BK243)) (below_size (lb4 HB GE235 GE236 GE237 GE243)))
               have n1_ := kl BK235 hb
               have n2_ := kl BK236 hb
               have n3_ := kl BK237 hb
               have n4_ := kl BK243 hb
               have n5_ := ls4 HB GE235 GE236 GE237 GE243 hb
               clear BK235
               clear BK236
               clear BK237
               clear BK243
               clear HB
               have HO251 := n0_
               have BK235 := n1_
               have BK236 := n2_
               have BK237 := n3_
               have BK243 := n4_
               have HB := n5_
               clear n0_ n1_ n2_ n3_ n4_ n5_
               (try clear hb)
               (try clear hb2)
               (try clear hk)
               (try clear hi)
               (try clear ho0)
               obtain ⟨Ao93, co93, eo93⟩ := Kd.R_slice HO251.out
               (first | subst eo93 | (injection eo93 with f1_ f2_ f3_; have f4_ := f1_.symm; have f5_ := f3_.symm; clear f1_ f2_ f3_; subst f4_; subst f5_))
               refine hK.out _ _ ⟨(blk_cell BK235.out 0).trans rfl, (blk_cell BK235.out 1).trans rfl, (blk_cell BK235.out 2).trans rfl, (blk_cell BK243.out 0).trans rfl, (blk_cell BK243.out 1).trans rfl, (blk_cell BK243.out 2).trans rfl⟩ (fun hHeld => ?_)
               clear hK K
               refine n_ 121 ?_
               refine p_ 10 122 HT_ ?_
               refine one_ (i := 13) (N := none) #[true, true, true, true, true, true, true, true, true, true, true, true, true, true, false, false] rfl rfl (one_of HT_.out (by kernel_rfl)) (by decide) (fun K hK => ?_)
               have hs94 : w92.cell? ⟨gb237, 0, none⟩ = some (.string (⟨#[]⟩ : ByteArray)) := (blk_cell BK237.out 0).trans rfl
               have hfs94 := blk_frozen BK237.out 0
               have hns94_0 := NB235_237.out
               have hns94_1 := NB236_237.out
               have hns94_3 := NB243_237.out
               have hms94_0 := NB237_235.out
               have hms94_1 := NB237_236.out
               have hms94_3 := NB237_243.out
               have hs95 : w92.cell? ⟨gb237, 1, none⟩ = some (.int .i64 0) := (blk_cell BK237.out 1).trans rfl
               have hfs95 := blk_frozen BK237.out 1
               have hns95_0 := NB235_237.out
               have hns95_1 := NB236_237.out
               have hns95_3 := NB243_237.out
               have hms95_0 := NB237_235.out
               have hms95_1 := NB237_236.out
               have hms95_3 := NB237_243.out
               have hs96 : w92.cell? ⟨gb237, 2, none⟩ = some (.slice none 0 0) := (blk_cell BK237.out 2).trans rfl
               have hfs96 := blk_frozen BK237.out 2
               have hns96_0 := NB235_237.out
               have hns96_1 := NB236_237.out
               have hns96_3 := NB243_237.out
               have hms96_0 := NB237_235.out
               have hms96_1 := NB237_236.out
               have hms96_3 := NB237_243.out
               refine skip_ (w1 := ?_) (by rfl) rfl ?_ ?_
               rotate_left
               ·go_simp
                rfl
               refine hK.out _ _ ⟨((cell_far (p := ⟨gb237, _, none⟩) NB235_237.out _).trans (((cell_far (p := ⟨gb237, _, none⟩) NB235_237.out _).trans (((cell_far (p := ⟨gb237, _, none⟩) NB235_237.out _).trans (hHeld.1)))))), ((cell_far (p := ⟨gb237, _, none⟩) NB235_237.out _).trans (((cell_far (p := ⟨gb237, _, none⟩) NB235_237.out _).trans (((cell_far (p := ⟨gb237, _, none⟩) NB235_237.out _).trans (hHeld.2.1)))))), ((cell_far (p := ⟨gb237, _, none⟩) NB235_237.out _).trans (((cell_far (p := ⟨gb237, _, none⟩) NB235_237.out _).trans (((cell_far (p := ⟨gb237, _, none⟩) NB235_237.out _).trans (hHeld.2.2.1)))))), ((cell_far (p := ⟨gb237, _, none⟩) NB243_237.out _).trans (((cell_far (p := ⟨gb237, _, none⟩) NB243_237.out _).trans (((cell_far (p := ⟨gb237, _, none⟩) NB243_237.out _).trans (hHeld.2.2.2.1)))))), ((cell_far (p := ⟨gb237, _, none⟩) NB243_237.out _).trans (((cell_far (p := ⟨gb237, _, none⟩) NB243_237.out _).trans (((cell_far (p := ⟨gb237, _, none⟩) NB243_237.out _).trans (hHeld.2.2.2.2.1)))))), ((cell_far (p := ⟨gb237, _, none⟩) NB243_237.out _).trans (((cell_far (p := ⟨gb237, _, none⟩) NB243_237.out _).trans (((cell_far (p := ⟨gb237, _, none⟩) NB243_237.out _).trans (hHeld.2.2.2.2.2))))))⟩ (fun hHeld => ?_)
               clear hK K
               refine p_ 14 9 HT_ ?_
               refine p_ 15 10 HT_ ?_
               refine done_ (done_of HT_.out (by kernel_rfl)) ?_
               try go_wp2
               refine bodyPost_ret (results_ctt rfl _ _ gb237 31 #[.string a0_0, .int .i64 (wrap64 (a0_1 - t247)), .slice Ao93 t249.length co93] (0, 0) _ rfl (by (with_reducible repeat (first | refine blk_drewN ?_ _ | refine blk_drew ?_ | refine blk_alloc ?_ _)); refine blk_put (cs := #[.string a0_0, .int .i64 (wrap64 (a0_1 - t247)), .slice none 0 0]) ?_ 2 _ rfl; (with_reducible repeat (first | refine blk_drewN ?_ _ | refine blk_drew ?_ | refine blk_alloc ?_ _)); refine blk_put (cs := #[.string a0_0, .int .i64 0, .slice none 0 0]) ?_ 1 _ rfl; (with_reducible repeat (first | refine blk_drewN ?_ _ | refine blk_drew ?_ | refine blk_alloc ?_ _)); refine blk_put (cs := #[.string (⟨#[]⟩ : ByteArray), .int .i64 0, .slice none 0 0]) ?_ 0 _ rfl; (with_reducible repeat (first | refine blk_drewN ?_ _ | refine blk_drew ?_ | refine blk_alloc ?_ _)); exact BK237.out) Tryd.underlying31 rfl (by kernel_rfl)) rfl ?_
               exact ⟨_, by first | rfl | (simp [errW_none, errW_some] <;> rfl) | (simp only [← hji60, ← hji61]; first | rfl | (simp [errW_none, errW_some] <;> rfl)) | (simp [*, errW_none, errW_some] <;> rfl), by (with_reducible repeat (first | apply Kd.R_alloc | apply Kd.R_drewN | apply Kd.R_drew)); exact Kd.R_mono (Kd.R_far (p := ⟨gb237, 2, none⟩) (Kd.R_far (p := ⟨gb237, 1, none⟩) (Kd.R_far (p := ⟨gb237, 0, none⟩) (Kd.R_types HO251.out BK237.out (by decide)) (fun _ hk => hk.2) (.string a0_0)) (fun _ hk => hk.2) (.int .i64 (wrap64 (a0_1 - t247)))) (fun _ hk => hk.2) (.slice Ao93 t249.length co93)) (fun _ hk => trivial), lb4 HB GE235 GE236 GE237 GE243⟩
   ·rw [if_neg c20] at H
    have c20b0 : (x11_5 == 0) = false := beq_eq_false_iff_ne.mpr c20
    have c20b1 : (x11_5 != 0) = true := bne_iff_ne.mpr c20
    simp only [Option.some.injEq, Prod.mk.injEq] at H
    obtain ⟨rfl, rfl, rfl, rfl, rfl⟩ := H
    have hnb97 := NB237_235.out
    have hnc97 := NB235_237.out
    have hnb98 := NB237_236.out
    have hnc98 := NB236_237.out
    have hcz99_0 := bc BK237 0
    have hcz99_1 := bc BK237 1
    have hcz99_2 := bc BK237 2
    have hfz99_0 := blk_frozen BK237.out 0
    have hfz99_1 := blk_frozen BK237.out 1
    have hfz99_2 := blk_frozen BK237.out 2
    go_wp2
    refine bodyPost_ret (results_ctt rfl _ _ gb237 31 #[.string (⟨#[]⟩ : ByteArray), .int .i64 0, .slice none 0 0] (0, 0) _ rfl (by (with_reducible repeat (first | refine blk_drewN ?_ _ | refine blk_drew ?_ | refine blk_alloc ?_ _)); refine blk_put (cs := #[.string (⟨#[]⟩ : ByteArray), .int .i64 0, .slice none 0 0]) ?_ 2 _ rfl; (with_reducible repeat (first | refine blk_drewN ?_ _ | refine blk_drew ?_ | refine blk_alloc ?_ _)); refine blk_put (cs := #[.string (⟨#[]⟩ : ByteArray), .int .i64 0, .slice none 0 0]) ?_ 1 _ rfl; (with_reducible repeat (first | refine blk_drewN ?_ _ | refine blk_drew ?_ | refine blk_alloc ?_ _)); refine blk_put (cs := #[.string (⟨#[]⟩ : ByteArray), .int .i64 0, .slice none 0 0]) ?_ 0 _ rfl; (with_reducible repeat (first | refine blk_drewN ?_ _ | refine blk_drew ?_ | refine blk_alloc ?_ _)); exact BK237.out) Tryd.underlying31 rfl (by kernel_rfl)) rfl ?_
    exact ⟨_, by first | rfl | (simp [errW_none, errW_some] <;> rfl) | (simp [*, errW_none, errW_some] <;> rfl), by first | exact Kd.R_nil _ _ _ _ _ | exact Kd.N_nil _ _ _ _ _ | exact Kd.V_nil _ _ _ _ _ | exact Kd.Q_nil _ _ _ _ _ | exact Kd.S_nil _ _ _ _ _, lb3 HB GE235 GE236 GE237⟩

end Go.Proofs.YtldpacphackdjaaDoor.Print
