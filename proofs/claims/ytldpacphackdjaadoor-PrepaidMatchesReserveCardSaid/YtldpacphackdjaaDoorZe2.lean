/- Parts of the proofs of layer 28's laws, joined in one file by a program of the session; each part begins with its own sentence. -/
import Derived.Test.YtldpacphackdjaaDoorZaSq
import Derived.Test.YtldpacphackdjaaDoorZa5
import Derived.Test.YtldpacphackdjaaDoorZaK0
import Derived.Test.YtldpacphackdjaaDoorZaF21
import Derived.Test.YtldpacphackdjaaDoorZa6
import Derived.Test.YtldpacphackdjaaDoorZeF23
import Derived.Test.YtldpacphackdjaaDoorZa4
import Derived.Test.YtldpacphackdjaaDoorZe1
import Derived.Test.YtldpacphackdjaaDoorZd2
import Derived.Test.YtldpacphackdjaaDoorZj1
/- That the call of function 4 (crossbarlaw28_PrepaidMatchesReserve) answers what the Lean function of the same name answers, at every input at which that one answers. (Written by a program of the session, which drives the kit's printer.) -/
namespace Go.Proofs.YtldpacphackdjaaDoor.Print
open Go.RowKit Go.Proofs.YtldpacphackdjaaDoorW.PrintWords Go.Proofs.YtldpacphackdjaaDoorW.PrintLast Go.Proofs.YtldpacphackdjaaDoorW.PrintMore
attribute [local go_sem] max2_int min2_int max_two min_two max_three min_three max_four min_four   -- for this text's walks alone
set_option linter.unusedVariables false
set_option linter.unusedSimpArgs false

/-! ### crossbarlaw28_PrepaidMatchesReserve: function 4 -/
def crossbarlaw28_PrepaidMatchesReserve.f (k : Nat) (a0_0 : ByteArray) (a0_1 : Int) (l0_2 : List (S54)) (l1_0 : List (S70)) (a2 : Int) (a3 : Int) : Option (Bool) := (crossbarlaw28_sane.f k).bind fun t258 => (if t258 = true then ((crossbarref28_Few.f a0_0 a0_1 l0_2 l1_0).bind fun t259 => (if t259 = true then ((prepaid_Reserve.f a0_0 a0_1 l0_2 l1_0 a2 a3).bind fun bt260 => ((crossbarref28_Reserve.f k a0_0 a0_1 l0_2 l1_0 a2 a3).bind fun bt268 => ((crossbarref28_Same.f k bt260.1 bt260.2.1 bt260.2.2.1 bt268.1 bt268.2.1 bt268.2.2.1).bind fun t276 => (if t276 = true then (if bt260.2.2.2.1 = bt268.2.2.2.1 then (some (bt260.2.2.2.2 == bt268.2.2.2.2)) else (some false)) else (some false))))) else (some true))) else (some false))
set_option maxHeartbeats 8000000 in
set_option maxRecDepth 100000 in
theorem crossbarlaw28_PrepaidMatchesReserve.calls (k : Nat) (a0_0 : ByteArray) (a0_1 : Int) (A0_2 : Option Addr) (c0_2 : Nat) (l0_2 : List (S54)) (A1_0 : Option Addr) (c1_0 : Nat) (l1_0 : List (S70)) (a2 : Int) (a3 : Int) (r : Bool) (w : World) (hr0_2 : Kd.C k54 w A0_2 l0_2.length l0_2) (hc0_2 : l0_2.length ≤ c0_2) (hr1_0 : Kd.C k70 w A1_0 l1_0.length l1_0) (hc1_0 : l1_0.length ≤ c1_0) (h : crossbarlaw28_PrepaidMatchesReserve.f k a0_0 a0_1 l0_2 l1_0 a2 a3 = some r) (hT : r = true := by rfl) :
  Calls Tryd.prog 4 #[.agg #[.string a0_0, .int .i64 a0_1, .slice A0_2 l0_2.length c0_2], .agg #[.slice A1_0 l1_0.length c1_0], .int .i64 a2, .int .i64 a3] w fun e w' => e = .returned (.bool r) ∧ Below w.heap.size w w' := by
 have HT_TRUE := Aside0.mk hT
 clear hT
 have hu31 := Tryd.underlying31
 have hu24 := Tryd.underlying24
 have HR0_2 := Aside0.mk hr0_2
 have HC0_2 := Aside0.mk hc0_2
 clear hr0_2 hc0_2
 have HR1_0 := Aside0.mk hr1_0
 have HC1_0 := Aside0.mk hc1_0
 clear hr1_0 hc1_0
 have HB := Aside0.mk (Below.refl w.heap.size w)
 have H : ((crossbarlaw28_sane.f k).bind fun t258 => (if t258 = true then ((crossbarref28_Few.f a0_0 a0_1 l0_2 l1_0).bind fun t259 => (if t259 = true then ((prepaid_Reserve.f a0_0 a0_1 l0_2 l1_0 a2 a3).bind fun bt260 => ((crossbarref28_Reserve.f k a0_0 a0_1 l0_2 l1_0 a2 a3).bind fun bt268 => ((crossbarref28_Same.f k bt260.1 bt260.2.1 bt260.2.2.1 bt268.1 bt268.2.1 bt268.2.2.1).bind fun t276 => (if t276 = true then (if bt260.2.2.2.1 = bt268.2.2.2.1 then (some (bt260.2.2.2.2 == bt268.2.2.2.2)) else (some false)) else (some false))))) else (some true))) else (some false))) = some r := h
 clear h
 replace H := Option.bind_eq_some_iff.mp H
 obtain ⟨t258, A50, H⟩ := H
 replace H : (if t258 = true then ((crossbarref28_Few.f a0_0 a0_1 l0_2 l1_0).bind fun t259 => (if t259 = true then ((prepaid_Reserve.f a0_0 a0_1 l0_2 l1_0 a2 a3).bind fun bt260 => ((crossbarref28_Reserve.f k a0_0 a0_1 l0_2 l1_0 a2 a3).bind fun bt268 => ((crossbarref28_Same.f k bt260.1 bt260.2.1 bt260.2.2.1 bt268.1 bt268.2.1 bt268.2.2.1).bind fun t276 => (if t276 = true then (if bt260.2.2.2.1 = bt268.2.2.2.1 then (some (bt260.2.2.2.2 == bt268.2.2.2.2)) else (some false)) else (some false))))) else (some true))) else (some false)) = some r := H
 have A5 := Aside0.mk A50
 clear A50
 by_cases c6 : t258 = true
 ·subst c6
  have H1 : ((crossbarref28_Few.f a0_0 a0_1 l0_2 l1_0).bind fun t259 => (if t259 = true then ((prepaid_Reserve.f a0_0 a0_1 l0_2 l1_0 a2 a3).bind fun bt260 => ((crossbarref28_Reserve.f k a0_0 a0_1 l0_2 l1_0 a2 a3).bind fun bt268 => ((crossbarref28_Same.f k bt260.1 bt260.2.1 bt260.2.2.1 bt268.1 bt268.2.1 bt268.2.2.1).bind fun t276 => (if t276 = true then (if bt260.2.2.2.1 = bt268.2.2.2.1 then (some (bt260.2.2.2.2 == bt268.2.2.2.2)) else (some false)) else (some false))))) else (some true))) = some r := by rw [if_pos rfl] at H; exact H
  clear H
  have H := H1
  clear H1
  replace H := Option.bind_eq_some_iff.mp H
  obtain ⟨t259, A70, H⟩ := H
  replace H : (if t259 = true then ((prepaid_Reserve.f a0_0 a0_1 l0_2 l1_0 a2 a3).bind fun bt260 => ((crossbarref28_Reserve.f k a0_0 a0_1 l0_2 l1_0 a2 a3).bind fun bt268 => ((crossbarref28_Same.f k bt260.1 bt260.2.1 bt260.2.2.1 bt268.1 bt268.2.1 bt268.2.2.1).bind fun t276 => (if t276 = true then (if bt260.2.2.2.1 = bt268.2.2.2.1 then (some (bt260.2.2.2.2 == bt268.2.2.2.2)) else (some false)) else (some false))))) else (some true)) = some r := H
  have A7 := Aside0.mk A70
  clear A70
  by_cases c8 : t259 = true
  ·subst c8
   have H1 : ((prepaid_Reserve.f a0_0 a0_1 l0_2 l1_0 a2 a3).bind fun bt260 => ((crossbarref28_Reserve.f k a0_0 a0_1 l0_2 l1_0 a2 a3).bind fun bt268 => ((crossbarref28_Same.f k bt260.1 bt260.2.1 bt260.2.2.1 bt268.1 bt268.2.1 bt268.2.2.1).bind fun t276 => (if t276 = true then (if bt260.2.2.2.1 = bt268.2.2.2.1 then (some (bt260.2.2.2.2 == bt268.2.2.2.2)) else (some false)) else (some false))))) = some r := by rw [if_pos rfl] at H; exact H
   clear H
   have H := H1
   clear H1
   replace H := Option.bind_eq_some_iff.mp H
   obtain ⟨⟨t260, t261, t262, t265, t266⟩, A90, H⟩ := H
   replace H : ((crossbarref28_Reserve.f k a0_0 a0_1 l0_2 l1_0 a2 a3).bind fun bt268 => ((crossbarref28_Same.f k t260 t261 t262 bt268.1 bt268.2.1 bt268.2.2.1).bind fun t276 => (if t276 = true then (if t265 = bt268.2.2.2.1 then (some (t266 == bt268.2.2.2.2)) else (some false)) else (some false)))) = some r := H
   have A9 := Aside0.mk A90
   clear A90
   replace H := Option.bind_eq_some_iff.mp H
   obtain ⟨⟨t268, t269, t270, t273, t274⟩, A100, H⟩ := H
   replace H : ((crossbarref28_Same.f k t260 t261 t262 t268 t269 t270).bind fun t276 => (if t276 = true then (if t265 = t273 then (some (t266 == t274)) else (some false)) else (some false))) = some r := H
   have A10 := Aside0.mk A100
   clear A100
   replace H := Option.bind_eq_some_iff.mp H
   obtain ⟨t276, A110, H⟩ := H
   replace H : (if t276 = true then (if t265 = t273 then (some (t266 == t274)) else (some false)) else (some false)) = some r := H
   have A11 := Aside0.mk A110
   clear A110
   by_cases c12 : t276 = true
   ·subst c12
    have H1 : (if t265 = t273 then (some (t266 == t274)) else (some false)) = some r := by rw [if_pos rfl] at H; exact H
    clear H
    have H := H1
    clear H1
    by_cases c13 : t265 = t273
    ·rw [if_pos c13] at H
     have c13b0 : (t265 == t273) = true := beq_iff_eq.mpr c13
     have c13b1 : (t265 != t273) = false := bne_eq_false_iff_eq.mpr c13
     clear c13
     obtain rfl := Option.some.inj H
     go_enter Tryd.func4, Tryd.ntmps4
     go_wp2_with (first | ((with_reducible refine gate_dst (N := 4) rfl ?_); refine box_event ?hg (N := 4) ?hd (cs := #[.string a0_0, .int .i64 a0_1, .slice A0_2 l0_2.length c0_2]) (t := 31) ?hr ?_; (case hd => rfl); (case hg => rfl); (case hr => first | (go_simp; done) | (go_simp; rfl)); intro gb256 hg w14 hbox hb; have n0_ := ls0 HB hb; have n1_ := Aside0.mk (hbox); have n2_ := Aside0.mk ((by rw [hg]; exact (below_size (lb0 HB)) : w.heap.size ≤ gb256)); have n3_ := Aside0.mk ((by rw [hg]; exact (below_size (lb0 HB)) : w.heap.size ≤ gb256)); clear HB; have HB := n0_; have BK256 := n1_; have GW256 := n2_; have GE256 := n3_; clear n0_ n1_ n2_ n3_; clear hb hbox hg) | ((with_reducible refine gate_dst (N := 5) rfl ?_); refine box_event ?hg (N := 5) ?hd (cs := #[.slice A1_0 l1_0.length c1_0]) (t := 24) ?hr ?_; (case hd => rfl); (case hg => rfl); (case hr => first | (go_simp; done) | (go_simp; rfl)); intro gb257 hg w15 hbox hb; have n0_ := kl BK256 hb; have n1_ := ls1 HB GE256 hb; have n2_ := Aside0.mk (hbox); have n3_ := Aside0.mk ((by rw [hg]; exact (below_size (lb1 HB GE256)) : w.heap.size ≤ gb257)); have n4_ := Aside0.mk ((by rw [hg]; exact (below_size (lb1 HB GE256)) : w.heap.size ≤ gb257)); have n5_ := kn BK256 hg; have n6_ := km BK256 hg; clear BK256; clear HB; have BK256 := n0_; have HB := n1_; have BK257 := n2_; have GW257 := n3_; have GE257 := n4_; have NB256_257 := n5_; have NB257_256 := n6_; clear n0_ n1_ n2_ n3_ n4_ n5_ n6_; clear hb hbox hg) | ((with_reducible refine gate_callee (f := 21) rfl ?_); refine goesL_ (some 15) rfl rfl Tryd.func21 (by kernel_rfl) rfl #[] rfl (by (try simp only [List.map_toArray, List.map_cons, List.map_nil]); first | done | rfl | (simp only [List.length_drop, List.length_take]; rfl)) ?_; (with_reducible refine (crossbarlaw28_sane.calls k  true _ A5.out).mono ?_); rintro e w16 ⟨rfl, hb⟩; refine ⟨_, rfl, ?_⟩; have n0_ := kl BK256 hb; have n1_ := kl BK257 hb; have n2_ := ls2 HB GE256 GE257 hb; clear BK256; clear BK257; clear HB; have BK256 := n0_; have BK257 := n1_; have HB := n2_; clear n0_ n1_ n2_; (try clear hb); (try clear hb2); (try clear hk); (try clear hi); have hnb17 := NB256_257.out; have hnc17 := NB257_256.out; have hcz18_0 := bc BK256 0; have hcz18_1 := bc BK256 1; have hcz18_2 := bc BK256 2; have hfz18_0 := blk_frozen BK256.out 0; have hfz18_1 := blk_frozen BK256.out 1; have hfz18_2 := blk_frozen BK256.out 2; have hcz19_0 := bc BK257 0; have hfz19_0 := blk_frozen BK257.out 0) | ((with_reducible refine gate_callee (f := 22) rfl ?_); refine goesL_ (some 19) rfl rfl Tryd.func22 (by kernel_rfl) rfl #[.agg #[.string a0_0, .int .i64 a0_1, .slice A0_2 l0_2.length c0_2], .agg #[.slice A1_0 l1_0.length c1_0]] rfl (by (try simp only [List.map_toArray, List.map_cons, List.map_nil]); first | done | rfl | (simp only [List.length_drop, List.length_take]; rfl)) ?_; (with_reducible refine (crossbarref28_Few.calls a0_0 a0_1 _ _ l0_2 _ _ l1_0 true _ ?side1 ?side2 ?side3 ?side4 A7.out).mono ?_); (case side1 => repeat (first | exact (Kd.C_below HR0_2.out HB.out) | (with_reducible refine Kd.C_alloc ?_ _) | (with_reducible refine Kd.C_drewN ?_ _) | (with_reducible refine Kd.C_drew ?_))); (case side2 => exact HC0_2.out); (case side3 => repeat (first | exact (Kd.C_below HR1_0.out HB.out) | (with_reducible refine Kd.C_alloc ?_ _) | (with_reducible refine Kd.C_drewN ?_ _) | (with_reducible refine Kd.C_drew ?_))); (case side4 => exact HC1_0.out); rintro e w20 ⟨rfl, hb⟩; refine ⟨_, rfl, ?_⟩; have n0_ := kl BK256 hb; have n1_ := kl BK257 hb; have n2_ := ls2 HB GE256 GE257 hb; clear BK256; clear BK257; clear HB; have BK256 := n0_; have BK257 := n1_; have HB := n2_; clear n0_ n1_ n2_; (try clear hb); (try clear hb2); (try clear hk); (try clear hi); have hcz21_0 := bc BK256 0; have hcz21_1 := bc BK256 1; have hcz21_2 := bc BK256 2; have hfz21_0 := blk_frozen BK256.out 0; have hfz21_1 := blk_frozen BK256.out 1; have hfz21_2 := blk_frozen BK256.out 2; have hcz22_0 := bc BK257 0; have hfz22_0 := blk_frozen BK257.out 0) | ((with_reducible refine gate_callee (f := 14) rfl ?_); refine goesL_ (some 26) rfl rfl Tryd.func14 (by kernel_rfl) rfl #[.agg #[.string a0_0, .int .i64 a0_1, .slice A0_2 l0_2.length c0_2], .agg #[.slice A1_0 l1_0.length c1_0], .int .i64 a2, .int .i64 a3] rfl (by (try simp only [List.map_toArray, List.map_cons, List.map_nil]); first | done | rfl | (simp only [List.length_drop, List.length_take]; rfl)) ?_; (with_reducible refine (prepaid_Reserve.calls a0_0 a0_1 _ _ l0_2 _ _ l1_0 a2 a3 t260 t261 t262 t265 t266 _ ?side1 ?side2 ?side3 ?side4 A9.out).mono ?_); (case side1 => repeat (first | exact (Kd.C_below HR0_2.out HB.out) | (with_reducible refine Kd.C_alloc ?_ _) | (with_reducible refine Kd.C_drewN ?_ _) | (with_reducible refine Kd.C_drew ?_))); (case side2 => exact HC0_2.out); (case side3 => repeat (first | exact (Kd.C_below HR1_0.out HB.out) | (with_reducible refine Kd.C_alloc ?_ _) | (with_reducible refine Kd.C_drewN ?_ _) | (with_reducible refine Kd.C_drew ?_))); (case side4 => exact HC1_0.out); rintro e w23 ⟨v263, rfl, ho0, hb⟩; refine ⟨_, rfl, ?_⟩; have n0_ := Aside0.mk (Kd.R_lower ho0 (below_size (lb2 HB GE256 GE257))); have n1_ := kl BK256 hb; have n2_ := kl BK257 hb; have n3_ := ls2 HB GE256 GE257 hb; clear BK256; clear BK257; clear HB; have HO264 := n0_; have BK256 := n1_; have BK257 := n2_; have HB := n3_; clear n0_ n1_ n2_ n3_; (try clear hb); (try clear hb2); (try clear hk); (try clear hi); (try clear ho0)) | ((with_reducible refine gate_dst (N := 9) rfl ?_); refine box_event ?hg (N := 9) ?hd (cs := #[.string (⟨#[]⟩ : ByteArray), .int .i64 0, .slice none 0 0]) (t := 31) ?hr ?_; (case hd => rfl); (case hg => rfl); (case hr => first | (go_simp; done) | (go_simp; rfl)); intro gb267 hg w24 hbox hb; have n0_ := Aside0.mk (Kd.R_below (rk HO264) hb); have n1_ := kl BK256 hb; have n2_ := kl BK257 hb; have n3_ := ls2 HB GE256 GE257 hb; have n4_ := Aside0.mk (hbox); have n5_ := Aside0.mk ((by rw [hg]; exact (below_size (lb2 HB GE256 GE257)) : w.heap.size ≤ gb267)); have n6_ := Aside0.mk ((by rw [hg]; exact (below_size (lb2 HB GE256 GE257)) : w.heap.size ≤ gb267)); have n7_ := kn BK256 hg; have n8_ := km BK256 hg; have n9_ := kn BK257 hg; have n10_ := km BK257 hg; clear HO264; clear BK256; clear BK257; clear HB; have HO264 := n0_; have BK256 := n1_; have BK257 := n2_; have HB := n3_; have BK267 := n4_; have GW267 := n5_; have GE267 := n6_; have NB256_267 := n7_; have NB267_256 := n8_; have NB257_267 := n9_; have NB267_257 := n10_; clear n0_ n1_ n2_ n3_ n4_ n5_ n6_ n7_ n8_ n9_ n10_; clear hb hbox hg; have hnb25 := NB267_256.out; have hnc25 := NB256_267.out; have hnb26 := NB267_257.out; have hnc26 := NB257_267.out; have hcz27_0 := bc BK267 0; have hcz27_1 := bc BK267 1; have hcz27_2 := bc BK267 2; have hfz27_0 := blk_frozen BK267.out 0; have hfz27_1 := blk_frozen BK267.out 1; have hfz27_2 := blk_frozen BK267.out 2; obtain ⟨Ao28, co28, eo28⟩ := Kd.R_slice HO264.out; subst eo28; have hcz29_0 := bc BK256 0; have hcz29_1 := bc BK256 1; have hcz29_2 := bc BK256 2; have hfz29_0 := blk_frozen BK256.out 0; have hfz29_1 := blk_frozen BK256.out 1; have hfz29_2 := blk_frozen BK256.out 2; have hcz30_0 := bc BK257 0; have hfz30_0 := blk_frozen BK257.out 0) | ((with_reducible refine gate_callee (f := 23) rfl ?_); refine goesL_ (some 35) rfl rfl Tryd.func23 (by kernel_rfl) rfl #[.agg #[.string a0_0, .int .i64 a0_1, .slice A0_2 l0_2.length c0_2], .agg #[.slice A1_0 l1_0.length c1_0], .int .i64 a2, .int .i64 a3] rfl (by (try simp only [List.map_toArray, List.map_cons, List.map_nil]); first | done | rfl | (simp only [List.length_drop, List.length_take]; rfl)) ?_; (with_reducible refine (crossbarref28_Reserve.calls k a0_0 a0_1 _ _ l0_2 _ _ l1_0 a2 a3 t268 t269 t270 t273 t274 _ ?side1 ?side2 ?side3 ?side4 A10.out).mono ?_); (case side1 => exact Kd.C_below HR0_2.out (lb3 HB GE256 GE257 GE267)); (case side2 => exact HC0_2.out); (case side3 => exact Kd.C_below HR1_0.out (lb3 HB GE256 GE257 GE267)); (case side4 => exact HC1_0.out); rintro e w31 ⟨v271, rfl, ho0, hb⟩; refine ⟨_, rfl, ?_⟩; have n0_ := Aside0.mk (Kd.R_elder' (by (with_reducible repeat (first | apply Kd.R_alloc | apply Kd.R_drewN | apply Kd.R_drew)); exact (Kd.R_mono (Kd.R_far (p := ⟨gb267, 2, none⟩) (Kd.R_far (p := ⟨gb267, 1, none⟩) (Kd.R_far (p := ⟨gb267, 0, none⟩) (Kd.R_types HO264.out BK267.out (by decide)) (fun _ hk => hk.2) (.string t260)) (fun _ hk => hk.2) (.int .i64 t261)) (fun _ hk => hk.2) (.slice Ao28 t262.length co28)) (fun _ h_ => h_.1))) (Kd.R_base ho0) hb); have n1_ := Aside0.mk (Kd.R_lower (Kd.R_new' ho0 (Kd.R_lt (by (with_reducible repeat (first | apply Kd.R_alloc | apply Kd.R_drewN | apply Kd.R_drew)); exact (Kd.R_mono (Kd.R_far (p := ⟨gb267, 2, none⟩) (Kd.R_far (p := ⟨gb267, 1, none⟩) (Kd.R_far (p := ⟨gb267, 0, none⟩) (Kd.R_types HO264.out BK267.out (by decide)) (fun _ hk => hk.2) (.string t260)) (fun _ hk => hk.2) (.int .i64 t261)) (fun _ hk => hk.2) (.slice Ao28 t262.length co28)) (fun _ h_ => h_.1))))) (below_size (lb3 HB GE256 GE257 GE267))); have n2_ := kl1 BK256 NB256_267 hb; have n3_ := kl1 BK257 NB257_267 hb; have n4_ := Aside0.mk (blk_below (g := gb267) (o := .cells #[.string t260, .int .i64 t261, .slice Ao28 t262.length co28] 31 (0, 0)) (by (with_reducible repeat (first | refine blk_drewN ?_ _ | refine blk_drew ?_ | refine blk_alloc ?_ _)); refine blk_put (cs := #[.string t260, .int .i64 t261, .slice none 0 0]) ?_ 2 _ rfl; (with_reducible repeat (first | refine blk_drewN ?_ _ | refine blk_drew ?_ | refine blk_alloc ?_ _)); refine blk_put (cs := #[.string t260, .int .i64 0, .slice none 0 0]) ?_ 1 _ rfl; (with_reducible repeat (first | refine blk_drewN ?_ _ | refine blk_drew ?_ | refine blk_alloc ?_ _)); refine blk_put (cs := #[.string (⟨#[]⟩ : ByteArray), .int .i64 0, .slice none 0 0]) ?_ 0 _ rfl; (with_reducible repeat (first | refine blk_drewN ?_ _ | refine blk_drew ?_ | refine blk_alloc ?_ _)); exact BK267.out) hb); have n5_ := ls3 HB GE256 GE257 GE267 hb; clear HO264; clear BK256; clear BK257; clear BK267; clear HB; have HO264 := n0_; have HO272 := n1_; have BK256 := n2_; have BK257 := n3_; have BK267 := n4_; have HB := n5_; clear n0_ n1_ n2_ n3_ n4_ n5_; (try clear hb); (try clear hb2); (try clear hk); (try clear hi); (try clear ho0)) | ((with_reducible refine gate_dst (N := 12) rfl ?_); refine box_event ?hg (N := 12) ?hd (cs := #[.string (⟨#[]⟩ : ByteArray), .int .i64 0, .slice none 0 0]) (t := 31) ?hr ?_; (case hd => rfl); (case hg => rfl); (case hr => first | (go_simp; done) | (go_simp; rfl)); intro gb275 hg w32 hbox hb; have n0_ := Aside0.mk (Kd.R_below (rk HO264) hb); have n1_ := Aside0.mk (Kd.R_below (rk HO272) hb); have n2_ := kl BK256 hb; have n3_ := kl BK257 hb; have n4_ := kl BK267 hb; have n5_ := ls3 HB GE256 GE257 GE267 hb; have n6_ := Aside0.mk (hbox); have n7_ := Aside0.mk ((by rw [hg]; exact (below_size (lb3 HB GE256 GE257 GE267)) : w.heap.size ≤ gb275)); have n8_ := Aside0.mk ((by rw [hg]; exact (below_size (lb3 HB GE256 GE257 GE267)) : w.heap.size ≤ gb275)); have n9_ := kn BK256 hg; have n10_ := km BK256 hg; have n11_ := kn BK257 hg; have n12_ := km BK257 hg; have n13_ := kn BK267 hg; have n14_ := km BK267 hg; clear HO264; clear HO272; clear BK256; clear BK257; clear BK267; clear HB; have HO264 := n0_; have HO272 := n1_; have BK256 := n2_; have BK257 := n3_; have BK267 := n4_; have HB := n5_; have BK275 := n6_; have GW275 := n7_; have GE275 := n8_; have NB256_275 := n9_; have NB275_256 := n10_; have NB257_275 := n11_; have NB275_257 := n12_; have NB267_275 := n13_; have NB275_267 := n14_; clear n0_ n1_ n2_ n3_ n4_ n5_ n6_ n7_ n8_ n9_ n10_ n11_ n12_ n13_ n14_; clear hb hbox hg; have hnb33 := NB275_256.out; have hnc33 := NB256_275.out; have hnb34 := NB275_257.out; have hnc34 := NB257_275.out; have hnb35 := NB275_267.out; have hnc35 := NB267_275.out; have hcz36_0 := bc BK275 0; have hcz36_1 := bc BK275 1; have hcz36_2 := bc BK275 2; have hfz36_0 := blk_frozen BK275.out 0; have hfz36_1 := blk_frozen BK275.out 1; have hfz36_2 := blk_frozen BK275.out 2; obtain ⟨Ao37, co37, eo37⟩ := Kd.R_slice HO272.out; subst eo37; have hcz38_0 := bc BK267 0; have hcz38_1 := bc BK267 1; have hcz38_2 := bc BK267 2; have hfz38_0 := blk_frozen BK267.out 0; have hfz38_1 := blk_frozen BK267.out 1; have hfz38_2 := blk_frozen BK267.out 2) | ((with_reducible refine gate_callee (f := 24) rfl ?_); refine goesL_ (some 41) rfl rfl Tryd.func24 (by kernel_rfl) rfl #[.agg #[.string t260, .int .i64 t261, .slice Ao28 t262.length co28], .agg #[.string t268, .int .i64 t269, .slice Ao37 t270.length co37]] rfl (by (try simp only [List.map_toArray, List.map_cons, List.map_nil]); first | done | rfl | (simp only [List.length_drop, List.length_take]; rfl)) ?_; (with_reducible refine (crossbarref28_Same.calls k t260 t261 _ _ t262 t268 t269 _ _ t270 true _ ?side1 ?side2 ?side3 ?side4 A11.out).mono ?_); (case side1 => refine (Kd.R_reads' (e := 54) (base := w.heap.size) (ok := fun k_ => (True ∧ some k_ ≠ (.slice Ao37 t270.length co37 : Value).ownBlock)) (n := t262.length) (c := co28) ?_).2.2; exact (by (with_reducible repeat (first | apply Kd.R_alloc | apply Kd.R_drewN | apply Kd.R_drew)); exact (Kd.R_mono (Kd.R_far (p := ⟨gb275, 2, none⟩) (Kd.R_far (p := ⟨gb275, 1, none⟩) (Kd.R_far (p := ⟨gb275, 0, none⟩) (Kd.R_types HO264.out BK275.out (by decide)) (fun _ hk => hk.2) (.string t268)) (fun _ hk => hk.2) (.int .i64 t269)) (fun _ hk => hk.2) (.slice Ao37 t270.length co37)) (fun _ h_ => h_.1)))); (case side2 => exact (Kd.R_reads' HO264.out).2.1); (case side3 => refine (Kd.R_reads' (e := 54) (base := w.heap.size) (ok := fun k_ => (True ∧ some k_ ≠ (.slice Ao28 t262.length co28 : Value).ownBlock)) (n := t270.length) (c := co37) ?_).2.2; exact (by (with_reducible repeat (first | apply Kd.R_alloc | apply Kd.R_drewN | apply Kd.R_drew)); exact (Kd.R_mono (Kd.R_far (p := ⟨gb275, 2, none⟩) (Kd.R_far (p := ⟨gb275, 1, none⟩) (Kd.R_far (p := ⟨gb275, 0, none⟩) (Kd.R_types HO272.out BK275.out (by decide)) (fun _ hk => hk.2) (.string t268)) (fun _ hk => hk.2) (.int .i64 t269)) (fun _ hk => hk.2) (.slice Ao37 t270.length co37)) (fun _ h_ => h_.1)))); (case side4 => exact (Kd.R_reads' HO272.out).2.1); rintro e w39 ⟨rfl, hb⟩; refine ⟨_, rfl, ?_⟩; have n0_ := Aside0.mk (Kd.R_below (by (with_reducible repeat (first | apply Kd.R_alloc | apply Kd.R_drewN | apply Kd.R_drew)); exact (Kd.R_mono (Kd.R_far (p := ⟨gb275, 2, none⟩) (Kd.R_far (p := ⟨gb275, 1, none⟩) (Kd.R_far (p := ⟨gb275, 0, none⟩) (Kd.R_types HO264.out BK275.out (by decide)) (fun _ hk => hk.2) (.string t268)) (fun _ hk => hk.2) (.int .i64 t269)) (fun _ hk => hk.2) (.slice Ao37 t270.length co37)) (fun _ h_ => h_.1))) hb); have n1_ := Aside0.mk (Kd.R_below (by (with_reducible repeat (first | apply Kd.R_alloc | apply Kd.R_drewN | apply Kd.R_drew)); exact (Kd.R_mono (Kd.R_far (p := ⟨gb275, 2, none⟩) (Kd.R_far (p := ⟨gb275, 1, none⟩) (Kd.R_far (p := ⟨gb275, 0, none⟩) (Kd.R_types HO272.out BK275.out (by decide)) (fun _ hk => hk.2) (.string t268)) (fun _ hk => hk.2) (.int .i64 t269)) (fun _ hk => hk.2) (.slice Ao37 t270.length co37)) (fun _ h_ => h_.1))) hb); have n2_ := kl1 BK256 NB256_275 hb; have n3_ := kl1 BK257 NB257_275 hb; have n4_ := kl1 BK267 NB267_275 hb; have n5_ := Aside0.mk (blk_below (g := gb275) (o := .cells #[.string t268, .int .i64 t269, .slice Ao37 t270.length co37] 31 (0, 0)) (by (with_reducible repeat (first | refine blk_drewN ?_ _ | refine blk_drew ?_ | refine blk_alloc ?_ _)); refine blk_put (cs := #[.string t268, .int .i64 t269, .slice none 0 0]) ?_ 2 _ rfl; (with_reducible repeat (first | refine blk_drewN ?_ _ | refine blk_drew ?_ | refine blk_alloc ?_ _)); refine blk_put (cs := #[.string t268, .int .i64 0, .slice none 0 0]) ?_ 1 _ rfl; (with_reducible repeat (first | refine blk_drewN ?_ _ | refine blk_drew ?_ | refine blk_alloc ?_ _)); refine blk_put (cs := #[.string (⟨#[]⟩ : ByteArray), .int .i64 0, .slice none 0 0]) ?_ 0 _ rfl; (with_reducible repeat (first | refine blk_drewN ?_ _ | refine blk_drew ?_ | refine blk_alloc ?_ _)); exact BK275.out) hb); have n6_ := ls4 HB GE256 GE257 GE267 GE275 hb; clear HO264; clear HO272; clear BK256; clear BK257; clear BK267; clear BK275; clear HB; have HO264 := n0_; have HO272 := n1_; have BK256 := n2_; have BK257 := n3_; have BK267 := n4_; have BK275 := n5_; have HB := n6_; clear n0_ n1_ n2_ n3_ n4_ n5_ n6_; (try clear hb); (try clear hb2); (try clear hk); (try clear hi)))
     go_ret
     exact ⟨by first | rfl | (simp [errW_none, errW_some] <;> rfl) | (simp [*, errW_none, errW_some] <;> rfl), lb4 HB GE256 GE257 GE267 GE275⟩
    ·rw [if_neg c13] at H
     have c13b0 : (t265 == t273) = false := beq_eq_false_iff_ne.mpr c13
     have c13b1 : (t265 != t273) = true := bne_iff_ne.mpr c13
     exact absurd ((Option.some.inj H).trans HT_TRUE.out) (by simp)
   ·replace c12 := Bool.eq_false_iff.mpr c12
    subst c12
    have H1 : (some false) = some r := by rw [if_neg (show ¬ (false = true) by decide)] at H; exact H
    clear H
    have H := H1
    clear H1
    exact absurd ((Option.some.inj H).trans HT_TRUE.out) (by simp)
  ·replace c8 := Bool.eq_false_iff.mpr c8
   subst c8
   have H1 : (some true) = some r := by rw [if_neg (show ¬ (false = true) by decide)] at H; exact H
   clear H
   have H := H1
   clear H1
   obtain rfl := Option.some.inj H
   go_enter Tryd.func4, Tryd.ntmps4
   go_wp2_with (first | ((with_reducible refine gate_dst (N := 4) rfl ?_); refine box_event ?hg (N := 4) ?hd (cs := #[.string a0_0, .int .i64 a0_1, .slice A0_2 l0_2.length c0_2]) (t := 31) ?hr ?_; (case hd => rfl); (case hg => rfl); (case hr => first | (go_simp; done) | (go_simp; rfl)); intro gb256 hg w40 hbox hb; have n0_ := ls0 HB hb; have n1_ := Aside0.mk (hbox); have n2_ := Aside0.mk ((by rw [hg]; exact (below_size (lb0 HB)) : w.heap.size ≤ gb256)); have n3_ := Aside0.mk ((by rw [hg]; exact (below_size (lb0 HB)) : w.heap.size ≤ gb256)); clear HB; have HB := n0_; have BK256 := n1_; have GW256 := n2_; have GE256 := n3_; clear n0_ n1_ n2_ n3_; clear hb hbox hg) | ((with_reducible refine gate_dst (N := 5) rfl ?_); refine box_event ?hg (N := 5) ?hd (cs := #[.slice A1_0 l1_0.length c1_0]) (t := 24) ?hr ?_; (case hd => rfl); (case hg => rfl); (case hr => first | (go_simp; done) | (go_simp; rfl)); intro gb257 hg w41 hbox hb; have n0_ := kl BK256 hb; have n1_ := ls1 HB GE256 hb; have n2_ := Aside0.mk (hbox); have n3_ := Aside0.mk ((by rw [hg]; exact (below_size (lb1 HB GE256)) : w.heap.size ≤ gb257)); have n4_ := Aside0.mk ((by rw [hg]; exact (below_size (lb1 HB GE256)) : w.heap.size ≤ gb257)); have n5_ := kn BK256 hg; have n6_ := km BK256 hg; clear BK256; clear HB; have BK256 := n0_; have HB := n1_; have BK257 := n2_; have GW257 := n3_; have GE257 := n4_; have NB256_257 := n5_; have NB257_256 := n6_; clear n0_ n1_ n2_ n3_ n4_ n5_ n6_; clear hb hbox hg) | ((with_reducible refine gate_callee (f := 21) rfl ?_); refine goesL_ (some 15) rfl rfl Tryd.func21 (by kernel_rfl) rfl #[] rfl (by (try simp only [List.map_toArray, List.map_cons, List.map_nil]); first | done | rfl | (simp only [List.length_drop, List.length_take]; rfl)) ?_; (with_reducible refine (crossbarlaw28_sane.calls k  true _ A5.out).mono ?_); rintro e w42 ⟨rfl, hb⟩; refine ⟨_, rfl, ?_⟩; have n0_ := kl BK256 hb; have n1_ := kl BK257 hb; have n2_ := ls2 HB GE256 GE257 hb; clear BK256; clear BK257; clear HB; have BK256 := n0_; have BK257 := n1_; have HB := n2_; clear n0_ n1_ n2_; (try clear hb); (try clear hb2); (try clear hk); (try clear hi); have hnb43 := NB256_257.out; have hnc43 := NB257_256.out; have hcz44_0 := bc BK256 0; have hcz44_1 := bc BK256 1; have hcz44_2 := bc BK256 2; have hfz44_0 := blk_frozen BK256.out 0; have hfz44_1 := blk_frozen BK256.out 1; have hfz44_2 := blk_frozen BK256.out 2; have hcz45_0 := bc BK257 0; have hfz45_0 := blk_frozen BK257.out 0) | ((with_reducible refine gate_callee (f := 22) rfl ?_); refine goesL_ (some 19) rfl rfl Tryd.func22 (by kernel_rfl) rfl #[.agg #[.string a0_0, .int .i64 a0_1, .slice A0_2 l0_2.length c0_2], .agg #[.slice A1_0 l1_0.length c1_0]] rfl (by (try simp only [List.map_toArray, List.map_cons, List.map_nil]); first | done | rfl | (simp only [List.length_drop, List.length_take]; rfl)) ?_; (with_reducible refine (crossbarref28_Few.calls a0_0 a0_1 _ _ l0_2 _ _ l1_0 false _ ?side1 ?side2 ?side3 ?side4 A7.out).mono ?_); (case side1 => repeat (first | exact (Kd.C_below HR0_2.out HB.out) | (with_reducible refine Kd.C_alloc ?_ _) | (with_reducible refine Kd.C_drewN ?_ _) | (with_reducible refine Kd.C_drew ?_))); (case side2 => exact HC0_2.out); (case side3 => repeat (first | exact (Kd.C_below HR1_0.out HB.out) | (with_reducible refine Kd.C_alloc ?_ _) | (with_reducible refine Kd.C_drewN ?_ _) | (with_reducible refine Kd.C_drew ?_))); (case side4 => exact HC1_0.out); rintro e w46 ⟨rfl, hb⟩; refine ⟨_, rfl, ?_⟩; have n0_ := kl BK256 hb; have n1_ := kl BK257 hb; have n2_ := ls2 HB GE256 GE257 hb; clear BK256; clear BK257; clear HB; have BK256 := n0_; have BK257 := n1_; have HB := n2_; clear n0_ n1_ n2_; (try clear hb); (try clear hb2); (try clear hk); (try clear hi)))
   go_ret
   exact ⟨by first | rfl | (simp [errW_none, errW_some] <;> rfl) | (simp [*, errW_none, errW_some] <;> rfl), lb2 HB GE256 GE257⟩
 ·replace c6 := Bool.eq_false_iff.mpr c6
  subst c6
  have H1 : (some false) = some r := by rw [if_neg (show ¬ (false = true) by decide)] at H; exact H
  clear H
  have H := H1
  clear H1
  exact absurd ((Option.some.inj H).trans HT_TRUE.out) (by simp)

end Go.Proofs.YtldpacphackdjaaDoor.Print
/- What the printed Check, Price and Afford of the tariff's reference answer, in plain words: the same as the program's. Conditions: enough rounds. -/
namespace Go.Proofs.YtldpacphackdjaaDoor.Print
open Go.RowKit Go.Proofs.YtldpacphackdjaaDoorW.PrintWords Go.Proofs.YtldpacphackdjaaDoorW.PrintLast Go.Proofs.YtldpacphackdjaaDoorW.PrintMore
set_option linter.unusedVariables false
set_option linter.unusedSimpArgs false

theorem rtime_is (x : Int) : crossbarref26_time.f x = some (decide (0 ≤ x ∧ x ≤ 1099511627776)) := by
  unfold crossbarref26_time.f
  by_cases h : x ≥ 0
  · rw [if_pos h]; simp [show (0 : Int) ≤ x from h]
  · rw [if_neg h]; simp [show ¬ (0 : Int) ≤ x from h]
/-- The bands from j on are in order and in range, told by their indices. -/
def okFrom (l : List S70) (j : Nat) : Prop := ∀ i : Nat, j ≤ i → i < l.length → 0 ≤ (rd_T70 l i).f0 ∧ (rd_T70 l i).f0 ≤ 86399 ∧ 0 ≤ (rd_T70 l i).f1 ∧ (rd_T70 l i).f1 ≤ 1000000 ∧ (0 < i → (rd_T70 l ((i - 1 : Nat) : Int)).f0 < (rd_T70 l i).f0)
noncomputable instance (l : List S70) (j : Nat) : Decidable (okFrom l j) := Classical.propDecidable _
theorem okFrom_succ (l : List S70) (j : Nat) (hj : j < l.length) : okFrom l j ↔ (0 ≤ (rd_T70 l j).f0 ∧ (rd_T70 l j).f0 ≤ 86399 ∧ 0 ≤ (rd_T70 l j).f1 ∧ (rd_T70 l j).f1 ≤ 1000000 ∧ (0 < j → (rd_T70 l ((j - 1 : Nat) : Int)).f0 < (rd_T70 l j).f0)) ∧ okFrom l (j + 1) := by
  constructor
  · intro h
    exact ⟨h j (Nat.le_refl _) hj, fun i h1 h2 => h i (by omega) h2⟩
  · rintro ⟨h1, h2⟩ i h3 h4
    by_cases he : i = j
    · subst he; exact h1
    · exact h2 i (by omega) h4
theorem rcheck_l0 (l : List S70) (hl : l.length ≤ 24) : ∀ (d k j : Nat), l.length - j = d → d < k → crossbarref26_Check.l0 k l (l.length : Int) (j : Int) l = some (if okFrom l j then 0 else 260) := by
  intro d
  induction d with
  | zero =>
    intro k j hd hk
    obtain ⟨k, rfl⟩ : ∃ m, k = m + 1 := ⟨k - 1, by omega⟩
    simp only [crossbarref26_Check.l0]
    rw [if_neg (by omega), if_pos (show okFrom l j from fun i h1 h2 => by omega)]
  | succ d ih =>
    intro k j hd hk
    obtain ⟨k, rfl⟩ : ∃ m, k = m + 1 := ⟨k - 1, by omega⟩
    have hj : j < l.length := by omega
    have hs := okFrom_succ l j hj
    simp only [crossbarref26_Check.l0]
    rw [if_pos (by omega), if_pos (by omega), if_pos (by omega), show wrap64 ((j : Int) + 1) = ((j + 1 : Nat) : Int) by unfold wrap64; omega, ih k (j + 1) (by omega) (by omega)]
    have no : ∀ (h : ¬ okFrom l j), (some 260 : Option Int) = some (if okFrom l j then 0 else 260) := fun h => by rw [if_neg h]
    by_cases c1 : (rd_T70 l j).f0 < 0
    · rw [if_pos c1]; exact no (fun h => by have := (hs.1 h).1.1; omega)
    rw [if_neg c1]
    by_cases c2 : (rd_T70 l j).f0 ≥ 86400
    · rw [if_pos c2]; exact no (fun h => by have := (hs.1 h).1.2.1; omega)
    rw [if_neg c2]
    by_cases c3 : (j : Int) > 0
    · rw [if_pos c3, show wrap64 ((j : Int) - 1) = ((j - 1 : Nat) : Int) by unfold wrap64; omega, if_pos (by omega), if_pos (by omega)]
      by_cases c4 : (rd_T70 l j).f0 ≤ (rd_T70 l ((j - 1 : Nat) : Int)).f0
      · rw [if_pos c4]; exact no (fun h => by have := (hs.1 h).1.2.2.2.2 (by omega); omega)
      rw [if_neg c4]
      by_cases c5 : (rd_T70 l j).f1 < 0
      · rw [if_pos c5]; exact no (fun h => by have := (hs.1 h).1.2.2.1; omega)
      rw [if_neg c5]
      by_cases c6 : (rd_T70 l j).f1 > 1000000
      · rw [if_pos c6]; exact no (fun h => by have := (hs.1 h).1.2.2.2.1; omega)
      rw [if_neg c6]
      congr 1
      by_cases h : okFrom l (j + 1)
      · rw [if_pos h, if_pos (hs.2 ⟨⟨by omega, by omega, by omega, by omega, fun _ => by omega⟩, h⟩)]
      · rw [if_neg h, if_neg (fun h2 => h (hs.1 h2).2)]
    · rw [if_neg c3]
      by_cases c5 : (rd_T70 l j).f1 < 0
      · rw [if_pos c5]; exact no (fun h => by have := (hs.1 h).1.2.2.1; omega)
      rw [if_neg c5]
      by_cases c6 : (rd_T70 l j).f1 > 1000000
      · rw [if_pos c6]; exact no (fun h => by have := (hs.1 h).1.2.2.2.1; omega)
      rw [if_neg c6]
      congr 1
      by_cases h : okFrom l (j + 1)
      · rw [if_pos h, if_pos (hs.2 ⟨⟨by omega, by omega, by omega, by omega, fun h0 => by omega⟩, h⟩)]
      · rw [if_neg h, if_neg (fun h2 => h (hs.1 h2).2)]
theorem goodFrom_of : ∀ (l : List S70) (m : Int), (∀ i : Nat, i < l.length → 0 ≤ (rd_T70 l i).f0 ∧ (rd_T70 l i).f0 ≤ 86399 ∧ 0 ≤ (rd_T70 l i).f1 ∧ (rd_T70 l i).f1 ≤ 1000000 ∧ (0 < i → (rd_T70 l ((i - 1 : Nat) : Int)).f0 < (rd_T70 l i).f0)) → (0 < l.length → m ≤ (rd_T70 l 0).f0) → goodFrom m l = true
  | [], _, _, _ => rfl
  | b :: t, m, h, hm => by
    have e : ∀ j : Nat, rd_T70 (b :: t) ((j + 1 : Nat) : Int) = rd_T70 t (j : Int) := fun j => by simp [rd_T70, show ((j : Int) + 1).toNat = j + 1 by omega]
    have e0 : rd_T70 (b :: t) ((0 : Nat) : Int) = b := by simp [rd_T70]
    have e00 : rd_T70 (b :: t) 0 = b := by simp [rd_T70]
    have h0 := h 0 (by simp)
    have hm0 := hm (by simp)
    rw [e0] at h0
    rw [e00] at hm0
    simp only [goodFrom, Bool.and_eq_true, decide_eq_true_eq]
    refine ⟨⟨hm0, h0.2.1, h0.2.2.1, h0.2.2.2.1⟩, goodFrom_of t _ (fun i hi => ?_) (fun ht => ?_)⟩
    · have hi' := h (i + 1) (by simpa using hi)
      rw [e] at hi'
      refine ⟨hi'.1, hi'.2.1, hi'.2.2.1, hi'.2.2.2.1, fun h0 => ?_⟩
      have := hi'.2.2.2.2 (by omega)
      rw [show i + 1 - 1 = (i - 1) + 1 by omega, e] at this
      exact this
    · have h1 := (h 1 (by simpa using ht)).2.2.2.2 (by omega)
      rw [show (1 : Nat) - 1 = 0 from rfl, e0, show (1 : Nat) = 0 + 1 from rfl, e] at h1
      rw [show ((0 : Nat) : Int) = 0 from rfl] at h1
      omega
theorem good_iff (l : List S70) : good l = true ↔ (1 ≤ l.length ∧ l.length ≤ 24 ∧ (rd_T70 l 0).f0 = 0 ∧ okFrom l 0) := by
  constructor
  · intro h
    have h1 := good_len h
    refine ⟨h1.1, h1.2, good_head h, fun i _ hi => ?_⟩
    have h2 := good_at h i hi
    refine ⟨by omega, h2.2.1, h2.2.2.1, h2.2.2.2, fun h0 => ?_⟩
    exact good_lt h (i - 1) i hi (by omega)
  · rintro ⟨h1, h2, h3, h4⟩
    cases l with
    | nil => simp at h1
    | cons b t =>
      simp only [good, Bool.and_eq_true, decide_eq_true_eq]
      exact ⟨by simpa [rd_T70] using h3, goodFrom_of _ _ (fun i hi => h4 i (Nat.zero_le _) hi) (fun _ => by omega), h2⟩
theorem rcheck_is (l : List S70) (k : Nat) (hk : 30 ≤ k) : crossbarref26_Check.f k l = some (if good l = true then 0 else 260) := by
  obtain ⟨k, rfl⟩ : ∃ m, k = m + 1 := ⟨k - 1, by omega⟩
  have hb := good_iff l
  unfold crossbarref26_Check.f
  by_cases c1 : (l.length : Int) < 1
  · rw [if_pos c1, if_neg (fun h => by have := (hb.1 h).1; omega)]
    simp only [crossbarref26_Check.j0]; rw [if_pos trivial]
  rw [if_neg c1]
  by_cases c2 : (l.length : Int) > 24
  · rw [if_pos c2, if_neg (fun h => by have := (hb.1 h).2.1; omega)]
    simp only [crossbarref26_Check.j0]; rw [if_pos trivial]
  rw [if_neg c2, if_pos (by omega)]
  simp only [crossbarref26_Check.j0]
  by_cases c3 : (rd_T70 l 0).f0 = 0
  · rw [if_neg (by simp [c3])]
    have := rcheck_l0 l (by omega) l.length k 0 (by omega) (by omega)
    rw [show ((0 : Nat) : Int) = 0 from rfl] at this
    rw [this]
    congr 1
    by_cases h : okFrom l 0
    · rw [if_pos h, if_pos (hb.2 ⟨by omega, by omega, c3, h⟩)]
    · rw [if_neg h, if_neg (fun h2 => h (hb.1 h2).2.2.2)]
  · rw [if_pos (by simpa using c3), if_neg (fun h => c3 (hb.1 h).2.2.1)]

/-! ### The rate -/

theorem rpartial_l0 {l : List S70} (hg : good l = true) (n : Int) (hn0 : 0 ≤ n) (hn1 : n ≤ 86400) : ∀ (d k j : Nat), l.length - j = d → d < k → j ≤ l.length →
    crossbarref26_partial.l0 k n (firstR (l.take j).reverse (if j < l.length then mn n (rd_T70 l j).f0 else n)) l (l.length : Int) (j : Int) l = some (first l n) := by
  have hl := (good_len hg).2
  intro d
  induction d with
  | zero =>
    intro k j hd hk hj
    obtain ⟨k, rfl⟩ : ∃ m, k = m + 1 := ⟨k - 1, by omega⟩
    simp only [crossbarref26_partial.l0]
    rw [if_neg (by omega), if_neg (by omega), List.take_of_length_le (by omega)]
    rfl
  | succ d ih =>
    intro k j hd hk hj
    obtain ⟨k, rfl⟩ : ∃ m, k = m + 1 := ⟨k - 1, by omega⟩
    have hjl : j < l.length := by omega
    have h3 := ih k (j + 1) (by omega) (by omega) (by omega)
    rw [take_last l j hjl] at h3
    obtain ⟨g0, g1, g2, g3⟩ := good_at hg j hjl
    have hmem : ∀ b ∈ (l.take j).reverse, 0 ≤ b.f0 ∧ 0 ≤ b.f1 ∧ b.f1 ≤ 1000000 := fun b hb => by
      have := good_mem hg b (List.mem_of_mem_take (by simpa using hb)); omega
    simp only [crossbarref26_partial.l0]
    rw [if_pos hjl, if_pos (by omega), if_pos (by omega), if_pos (by omega), show wrap64 ((j : Int) + 1) = ((j + 1 : Nat) : Int) by unfold wrap64; omega]
    -- where the band ends
    by_cases hlast : j + 1 < l.length
    · have hs := goodStep hg j hlast
      have gs := good_at hg (j + 1) hlast
      rw [if_pos (by omega), if_pos (by omega)]
      rw [if_pos hlast] at h3
      by_cases hc : n > (rd_T70 l j).f0
      · rw [if_pos hc]
        have e1 : mn n (rd_T70 l j).f0 = (rd_T70 l j).f0 := by unfold mn; omega
        rw [e1]
        have hlt : (rd_T70 l j).f0 < mn n (rd_T70 l ((j + 1 : Nat) : Int)).f0 := by unfold mn; omega
        have hle : mn n (rd_T70 l ((j + 1 : Nat) : Int)).f0 ≤ 86400 := by unfold mn; omega
        rw [firstR_yes _ hlt] at h3
        obtain ⟨b0, b1⟩ := firstR_bd (l.take j).reverse (rd_T70 l j).f0 hmem (by omega)
        generalize mn n (rd_T70 l ((j + 1 : Nat) : Int)).f0 = m at hlt hle h3 ⊢
        generalize firstR (l.take j).reverse (rd_T70 l j).f0 = F at b0 b1 h3 ⊢
        obtain ⟨p0, p1⟩ := mul_bd (m - (rd_T70 l j).f0) (rd_T70 l j).f1 (by omega) g2 g3
        rw [show wrap64 (m - (rd_T70 l j).f0) = m - (rd_T70 l j).f0 by unfold wrap64; omega]
        rw [show wrap64 ((m - (rd_T70 l j).f0) * (rd_T70 l j).f1) = (m - (rd_T70 l j).f0) * (rd_T70 l j).f1 by unfold wrap64; omega]
        rw [show wrap64 (F + (m - (rd_T70 l j).f0) * (rd_T70 l j).f1) = (m - (rd_T70 l j).f0) * (rd_T70 l j).f1 + F by unfold wrap64; omega]
        exact h3
      · rw [if_neg hc]
        have e1 : mn n (rd_T70 l j).f0 = n := by unfold mn; omega
        have e2 : mn n (rd_T70 l ((j + 1 : Nat) : Int)).f0 = n := by unfold mn; omega
        rw [e1]
        rw [e2, firstR_no _ (by omega)] at h3
        exact h3
    · have hj1 : j + 1 = l.length := by omega
      rw [if_neg (by omega)]
      rw [if_neg hlast] at h3
      by_cases hc : n > (rd_T70 l j).f0
      · rw [if_pos hc]
        have e1 : mn n (rd_T70 l j).f0 = (rd_T70 l j).f0 := by unfold mn; omega
        have e3 : mn n 86400 = n := by unfold mn; omega
        rw [e1, e3]
        rw [firstR_yes _ hc] at h3
        obtain ⟨b0, b1⟩ := firstR_bd (l.take j).reverse (rd_T70 l j).f0 hmem (by omega)
        generalize firstR (l.take j).reverse (rd_T70 l j).f0 = F at b0 b1 h3 ⊢
        obtain ⟨p0, p1⟩ := mul_bd (n - (rd_T70 l j).f0) (rd_T70 l j).f1 (by omega) g2 g3
        rw [show wrap64 (n - (rd_T70 l j).f0) = n - (rd_T70 l j).f0 by unfold wrap64; omega]
        rw [show wrap64 ((n - (rd_T70 l j).f0) * (rd_T70 l j).f1) = (n - (rd_T70 l j).f0) * (rd_T70 l j).f1 by unfold wrap64; omega]
        rw [show wrap64 (F + (n - (rd_T70 l j).f0) * (rd_T70 l j).f1) = (n - (rd_T70 l j).f0) * (rd_T70 l j).f1 + F by unfold wrap64; omega]
        exact h3
      · rw [if_neg hc]
        have e1 : mn n (rd_T70 l j).f0 = n := by unfold mn; omega
        rw [e1]
        rw [firstR_no _ (by omega)] at h3
        exact h3
theorem rpartial_is {l : List S70} (hg : good l = true) (n : Int) (hn0 : 0 ≤ n) (hn1 : n ≤ 86400) (k : Nat) (hk : 30 ≤ k) : crossbarref26_partial.f k l n = some (first l n) := by
  have h := rpartial_l0 hg n hn0 hn1 l.length k 0 (by omega) (by have := (good_len hg).2; omega) (by omega)
  unfold crossbarref26_partial.f
  exact h
theorem rtotal_is {l : List S70} (hg : good l = true) (x : Int) (hx : 0 ≤ x) (hx2 : x ≤ 1099511627776) (k : Nat) (hk : 30 ≤ k) : crossbarref26_total.f k l x = some (totalP l x) := by
  unfold crossbarref26_total.f
  rw [rpartial_is hg 86400 (by omega) (by omega) k hk, Option.bind_some, tmod_day x hx, tdiv_day x hx, rpartial_is hg (x % 86400) (by omega) (by omega) k hk, Option.bind_some]
  have hb := totalP_bd hg x hx
  obtain ⟨d0, d1⟩ := first_bd hg 86400 (by omega)
  obtain ⟨e0, e1⟩ := first_bd hg (x % 86400) (by omega)
  have p0 : 0 ≤ x / 86400 * first l 86400 := Int.mul_nonneg (by omega) d0
  unfold totalP at hb ⊢
  generalize hp : x / 86400 * first l 86400 = p at p0 hb ⊢
  generalize first l (x % 86400) = q at e0 hb ⊢
  clear d0 d1 e1
  rw [show wrap64 (x / 86400) = x / 86400 by clear hp p0 hb; unfold wrap64; omega, hp]
  clear hp
  rw [show wrap64 p = p by unfold wrap64; omega, show wrap64 (p + q) = p + q by unfold wrap64; omega]
theorem rprice_is (l : List S70) (a b : Int) (k : Nat) (hk : 31 ≤ k) : crossbarref26_Price.f k l a b = some (if good l = true then (if 0 ≤ a ∧ a ≤ b ∧ b ≤ 1099511627776 then (totalP l b - totalP l a, 0) else (0, 1)) else (0, 260)) := by
  obtain ⟨k, rfl⟩ : ∃ m, k = m + 1 := ⟨k - 1, by omega⟩
  unfold crossbarref26_Price.f
  rw [rcheck_is l _ (by omega), Option.bind_some]
  by_cases hg : good l = true
  · rw [if_pos hg, if_pos rfl, if_pos hg, rtime_is, Option.bind_some]
    by_cases ha : 0 ≤ a ∧ a ≤ 1099511627776
    · rw [decide_eq_true ha, if_pos rfl, rtime_is, Option.bind_some]
      by_cases hb : 0 ≤ b ∧ b ≤ 1099511627776
      · rw [decide_eq_true hb, if_pos rfl]
        simp only [crossbarref26_Price.j0]
        by_cases hc : a > b
        · rw [if_pos (decide_eq_true hc), if_neg (by omega)]
        · rw [if_neg (by simpa using hc), if_pos (by omega), rtotal_is hg b hb.1 hb.2 k (by omega), Option.bind_some, rtotal_is hg a ha.1 ha.2 k (by omega), Option.bind_some]
          have b1 := totalP_bd hg b hb.1
          have b2 := totalP_bd hg a ha.1
          rw [show wrap64 (totalP l b - totalP l a) = totalP l b - totalP l a by unfold wrap64; omega]
      · rw [decide_eq_false hb, if_neg (by simp), if_neg (by omega)]
        simp only [crossbarref26_Price.j0]; rw [if_pos trivial]
    · rw [decide_eq_false ha, if_neg (by simp), if_neg (by omega)]
      simp only [crossbarref26_Price.j0]; rw [if_pos trivial]
  · rw [if_neg hg, if_neg (by omega), if_neg hg]

theorem rafford_l0 {l : List S70} (hg : good l = true) (a u : Int) (ha : 0 ≤ a) (hu : 0 ≤ u) (m : Nat) (hm : a + m ≤ 1099511627776) : ∀ (d k lo hi : Nat), hi - lo ≤ 2 ^ d - 1 → d + 31 < k → lo ≤ affN l a u m → affN l a u m ≤ hi → hi ≤ m →
    crossbarref26_Afford.l0 k a u (lo : Int) (hi : Int) l = some ((affN l a u m : Int), 0) := by
  have hpay := affN_pays hg a u ha hu m
  intro d
  induction d with
  | zero =>
    intro k lo hi hd hk h1 h2 h3
    obtain ⟨k, rfl⟩ : ∃ m, k = m + 1 := ⟨k - 1, by omega⟩
    simp only [crossbarref26_Afford.l0]
    have : hi - lo ≤ 0 := by simpa using hd
    rw [if_neg (by omega), show lo = affN l a u m by omega]
  | succ d ih =>
    intro k lo hi hd hk h1 h2 h3
    obtain ⟨k, rfl⟩ : ∃ m, k = m + 1 := ⟨k - 1, by omega⟩
    simp only [crossbarref26_Afford.l0]
    by_cases hlt : lo < hi
    · obtain ⟨q, hq⟩ : ∃ q : Nat, q = (lo + hi + 1) / 2 := ⟨_, rfl⟩
      have hql : lo < q := by omega
      have hqh : q ≤ hi := by omega
      have e0 : wrap64 (Int.tdiv (wrap64 (wrap64 ((lo : Int) + hi) + 1)) 2) = (q : Int) := by
        rw [show wrap64 ((lo : Int) + hi) = (lo : Int) + hi by unfold wrap64; omega, show wrap64 ((lo : Int) + hi + 1) = (lo : Int) + hi + 1 by unfold wrap64; omega, Int.tdiv_eq_ediv_of_nonneg (by omega)]
        unfold wrap64; omega
      rw [if_pos (by clear e0; omega), e0]
      clear e0
      rw [show wrap64 (a + (q : Int)) = a + (q : Int) by unfold wrap64; omega, rtotal_is hg (a + q) (by omega) (by omega) k (by omega), Option.bind_some, rtotal_is hg a ha (by omega) k (by omega), Option.bind_some]
      have b1 := totalP_bd hg (a + q) (by omega)
      have b2 := totalP_bd hg a ha
      rw [show wrap64 (totalP l (a + q) - totalP l a) = totalP l (a + q) - totalP l a by unfold wrap64; omega]
      have hp2 : 2 ^ (d + 1) = 2 ^ d + 2 ^ d := by rw [Nat.pow_succ]; omega
      have hp1 : 1 ≤ 2 ^ d := Nat.one_le_two_pow
      generalize 2 ^ d = P at *
      by_cases hc : totalP l (a + q) - totalP l a ≤ u
      · rw [if_pos hc]
        refine ih k q hi (by omega) (by omega) ?_ h2 h3
        refine Nat.le_of_not_lt fun hlt2 => ?_
        have h4 := affN_max hg a u ha m (by omega)
        have h5 := totalP_mono hg (a + (affN l a u m : Int) + 1) (a + q) (by omega) (by omega)
        omega
      · rw [if_neg hc, show wrap64 ((q : Int) - 1) = ((q - 1 : Nat) : Int) by unfold wrap64; omega]
        refine ih k lo (q - 1) (by omega) (by omega) h1 ?_ (by omega)
        have : affN l a u m < q := by
          refine Nat.lt_of_not_le fun hle => ?_
          have h5 := totalP_mono hg (a + q) (a + (affN l a u m : Int)) (by omega) (by omega)
          omega
        omega
    · rw [if_neg (by omega), show lo = affN l a u m by omega]
theorem rafford_is (l : List S70) (a u m : Int) (k : Nat) (hk : 100 ≤ k) : crossbarref26_Afford.f k l a u m = tariff_Afford.f l a u m := by
  obtain ⟨k, rfl⟩ : ∃ m, k = m + 1 := ⟨k - 1, by omega⟩
  unfold crossbarref26_Afford.f tariff_Afford.f
  rw [rcheck_is l _ (by omega), Option.bind_some]
  by_cases hg : good l = true
  · rw [if_pos hg, if_pos rfl, if_pos hg, rtime_is, Option.bind_some]
    by_cases h1 : 0 ≤ a ∧ a ≤ 1099511627776
    · rw [decide_eq_true h1, if_pos rfl]
      by_cases h2 : u < 0
      · rw [if_pos h2, if_neg (by omega)]; simp only [crossbarref26_Afford.j0]; rw [if_pos trivial]
      rw [if_neg h2]
      by_cases h3 : m < 0
      · rw [if_pos h3, if_neg (by omega)]; simp only [crossbarref26_Afford.j0]; rw [if_pos trivial]
      rw [if_neg h3, show wrap64 (1099511627776 - a) = 1099511627776 - a by unfold wrap64; omega]
      simp only [crossbarref26_Afford.j0]
      by_cases h4 : m > 1099511627776 - a
      · rw [if_pos (decide_eq_true h4), if_neg (by omega)]
      · rw [if_neg (by simpa using h4), if_pos (by omega)]
        obtain ⟨n, rfl⟩ := Int.eq_ofNat_of_zero_le (show 0 ≤ m by omega)
        rw [Int.toNat_natCast]
        have e2 : (2 : Nat) ^ 41 = 2199023255552 := by decide
        have := rafford_l0 hg a u h1.1 (by omega) n (by omega) 41 k 0 n (by rw [e2]; omega) (by omega) (Nat.zero_le _) (affN_le l a u n) (Nat.le_refl _)
        exact this
    · rw [decide_eq_false h1, if_neg (by simp), if_neg (by omega)]; simp only [crossbarref26_Afford.j0]; rw [if_pos trivial]
  · rw [if_neg hg, if_neg (by omega), if_neg hg]
end Go.Proofs.YtldpacphackdjaaDoor.Print
/- What the reference's Reserve answers: the same as the program's. Conditions: enough rounds. -/
namespace Go.Proofs.YtldpacphackdjaaDoor.Print
open Go.RowKit Go.Proofs.YtldpacphackdjaaDoorW.PrintWords Go.Proofs.YtldpacphackdjaaDoorW.PrintLast Go.Proofs.YtldpacphackdjaaDoorW.PrintMore
set_option linter.unusedVariables false
set_option linter.unusedSimpArgs false

theorem with_l1 (l : List S54) (hl : l.length ≤ 1000000) (h0 h1 h2 : Int) : ∀ (d j k : Nat) (out : List S54), l.length - j = d → d + 1 ≤ k → out.length ≤ l.length + 1 + j → crossbarref28_with.l1 k l out (j : Int) h0 h1 h2 = some (out ++ (l.drop j).filter fun x => decide (x.f0 > h0)) := by
  intro d
  induction d with
  | zero =>
    intro j k out hd hk ho
    obtain ⟨k, rfl⟩ : ∃ i, k = i + 1 := ⟨k - 1, by omega⟩
    simp only [crossbarref28_with.l1]
    rw [if_neg (by omega), List.drop_of_length_le (by omega)]
    simp
  | succ d ih =>
    intro j k out hd hk ho
    obtain ⟨k, rfl⟩ : ∃ i, k = i + 1 := ⟨k - 1, by omega⟩
    have hj : j < l.length := by omega
    simp only [crossbarref28_with.l1]
    rw [if_pos (by omega), if_pos (by omega), pw1 (by omega), dropH_at l j hj]
    by_cases h : (rd_T54 l (j : Int)).f0 > h0
    · rw [if_pos h]
      by_cases hg : out.length < 5864062014805
      · rw [if_pos hg, ih (j + 1) k _ (by omega) (by omega) (by simp; omega), List.filter_cons_of_pos (by simpa using h)]
        simp
      · omega
    · rw [if_neg h, ih (j + 1) k out (by omega) (by omega) (by omega), List.filter_cons_of_neg (by simpa using h)]
theorem with_l0 (l : List S54) (hl : l.length ≤ 1000000) (h0 h1 h2 : Int) : ∀ (d j k : Nat) (out : List S54), l.length - j = d → d + l.length + 3 ≤ k → out.length ≤ j → j ≤ l.length → crossbarref28_with.l0 k l out (j : Int) h0 h1 h2 = some ((out ++ (l.drop j).filter fun x => decide (x.f0 < h0)) ++ (⟨h0, h1, h2⟩ : S54) :: l.filter fun x => decide (x.f0 > h0)) := by
  intro d
  induction d with
  | zero =>
    intro j k out hd hk ho hjl
    obtain ⟨k, rfl⟩ : ∃ i, k = i + 1 := ⟨k - 1, by omega⟩
    simp only [crossbarref28_with.l0]
    by_cases hg : out.length < 5864062014805
    · have := with_l1 l hl h0 h1 h2 l.length 0 k (out ++ [⟨h0, h1, h2⟩]) (by omega) (by omega) (by simp; omega)
      rw [show ((0 : Nat) : Int) = 0 from rfl] at this
      rw [if_neg (by omega), if_pos hg, this, List.drop_of_length_le (by omega : l.length ≤ j)]
      simp
    · omega
  | succ d ih =>
    intro j k out hd hk ho hjl
    obtain ⟨k, rfl⟩ : ∃ i, k = i + 1 := ⟨k - 1, by omega⟩
    have hj : j < l.length := by omega
    simp only [crossbarref28_with.l0]
    rw [if_pos (by omega), if_pos (by omega), pw1 (by omega), dropH_at l j hj]
    by_cases h : (rd_T54 l (j : Int)).f0 < h0
    · rw [if_pos h]
      by_cases hg : out.length < 5864062014805
      · rw [if_pos hg, ih (j + 1) k _ (by omega) (by omega) (by simp; omega) (by omega), List.filter_cons_of_pos (by simpa using h)]
        simp
      · omega
    · rw [if_neg h, ih (j + 1) k out (by omega) (by omega) (by omega) (by omega), List.filter_cons_of_neg (by simpa using h)]
theorem with_is (l : List S54) (hl : l.length ≤ 1000000) (h0 h1 h2 : Int) (k : Nat) (hk : 2 * l.length + 3 ≤ k) : crossbarref28_with.f k l h0 h1 h2 = some ((l.filter fun x => decide (x.f0 < h0)) ++ (⟨h0, h1, h2⟩ : S54) :: l.filter fun x => decide (x.f0 > h0)) := by
  unfold crossbarref28_with.f
  have := with_l0 l hl h0 h1 h2 l.length 0 k [] (by omega) (by omega) (by simp) (by omega)
  rw [show ((0 : Nat) : Int) = 0 from rfl] at this
  rw [this]
  simp
theorem rj3 {s : ByteArray} {b : Int} {l : List S54} {tl : List S70} {ref now : Int} (ha : Acc s b l) (hg : good tl = true) (h1 : 0 ≤ now) (h2 : now ≤ 1099511627776) (k : Nat) (hk : 4000 ≤ k) :
    crossbarref28_Reserve.j3 k now s b l tl ref (unH ref now l) (stH ref now l) = if secs b l tl ref now = 0 ∨ stH ref now l + secs b l tl ref now ≤ now then some (⟨#[]⟩, 0, [], 0, 280) else some (s, b - cost b l tl ref now, putH b l tl ref now, stH ref now l + secs b l tl ref now, 0) := by
  obtain ⟨k, rfl⟩ : ∃ i, k = i + 2 := ⟨k - 2, by omega⟩
  have hs := st_bd (ref := ref) ha h1 h2
  have hc := cost_bd (ref := ref) ha hg h1 h2
  have hb := ha.bal
  have hlen := ha.len
  have hl := (lasts_bd hg b now (stH ref now l) hb.1 h1 h2 hs.1 hs.2.1).2.2.2.2
  have hmx : 0 ≤ mx 0 (now - stH ref now l) ∧ mx 0 (now - stH ref now l) ≤ 1099511627776 := by unfold mx; split <;> omega
  have hlim : mn (wrap64 (30 + (mx 0 (wrap64 (now - stH ref now l))))) (wrap64 (1099511627776 - stH ref now l)) = limOf now (stH ref now l) := by
    rw [show wrap64 (now - stH ref now l) = now - stH ref now l by unfold wrap64; omega, show wrap64 (30 + mx 0 (now - stH ref now l)) = 30 + mx 0 (now - stH ref now l) by unfold wrap64; omega, show wrap64 (1099511627776 - stH ref now l) = 1099511627776 - stH ref now l by unfold wrap64; omega]
    rfl
  have hsec : lasts tl b now (stH ref now l) = secs b l tl ref now := rfl
  simp only [crossbarref28_Reserve.j3]
  rw [hlim, rafford_is tl _ _ _ (k + 1) (by omega), hl, Option.bind_some, hsec]
  simp only
  have j4t : ∀ x y : Int, crossbarref28_Reserve.j4 (k + 1) x y true s b l tl ref (unH ref now l) (stH ref now l) = some (⟨#[]⟩, 0, [], 0, 280) := fun x y => by
    simp only [crossbarref28_Reserve.j4]
    rw [if_pos trivial]
  by_cases hn : secs b l tl ref now = 0
  · rw [if_pos hn, j4t, if_pos (.inl hn)]
  · rw [if_neg hn, show wrap64 (stH ref now l + secs b l tl ref now) = stH ref now l + secs b l tl ref now by unfold wrap64; omega]
    by_cases hlt : stH ref now l + secs b l tl ref now ≤ now
    · rw [decide_eq_true hlt, j4t, if_pos (.inr hlt)]
    · rw [decide_eq_false hlt, if_neg (fun h => h.elim hn hlt)]
      simp only [crossbarref28_Reserve.j4]
      rw [if_neg (by simp), show wrap64 (stH ref now l + secs b l tl ref now) = stH ref now l + secs b l tl ref now by unfold wrap64; omega, rprice_is tl _ _ k (by omega), if_pos hg, if_pos ⟨hs.1, by omega, hc.2.1⟩, Option.bind_some]
      rw [show totalP tl (stH ref now l + secs b l tl ref now) - totalP tl (stH ref now l) = cost b l tl ref now from rfl]
      simp only
      rw [show wrap64 (unH ref now l + cost b l tl ref now) = unH ref now l + cost b l tl ref now by unfold wrap64; omega, show wrap64 (b - cost b l tl ref now) = b - cost b l tl ref now by unfold wrap64; omega, with_is l (by omega) _ _ _ k (by omega), Option.bind_some, put_is ha.holds]
theorem rreserve_is (s : ByteArray) (b : Int) (l : List S54) (tl : List S70) (ref now : Int) (k : Nat) (hk : 5000 ≤ k) : crossbarref28_Reserve.f k s b l tl ref now = prepaid_Reserve.f s b l tl ref now := by
  obtain ⟨k, rfl⟩ : ∃ i, k = i + 3 := ⟨k - 3, by omega⟩
  unfold crossbarref28_Reserve.f
  rw [rcheck28_is s b l (k + 3) (by omega), Option.bind_some]
  unfold prepaid_Reserve.f
  have j0e : ∀ e : Int, e ≠ 0 → crossbarref28_Reserve.j0 (k + 3) ref now e s b l tl = some (⟨#[]⟩, 0, [], 0, e) := fun e he => by
    simp only [crossbarref28_Reserve.j0]
    rw [if_neg he]
  have j1t : crossbarref28_Reserve.j1 (k + 2) ref now true s b l tl = some (⟨#[]⟩, 0, [], 0, 1) := by
    simp only [crossbarref28_Reserve.j1]
    rw [if_pos trivial]
  by_cases hp : pchk s b l = 0
  · have ha := (pchk_zero s b l).1 hp
    have hlen := ha.len
    rw [if_pos hp, if_pos hp, rcheck_is tl (k + 3) (by omega), Option.bind_some]
    by_cases hg : good tl = true
    · rw [if_pos hg, if_pos hg]
      simp only [crossbarref28_Reserve.j0]
      rw [if_pos trivial]
      by_cases h1 : 1 ≤ ref ∧ ref ≤ 1099511627776
      · rw [if_neg (by omega), if_pos h1, rwithin_is, Option.bind_some, if_pos (decide_eq_true ⟨by omega, h1.2⟩), rwithin_is, Option.bind_some]
        by_cases h2 : 0 ≤ now ∧ now ≤ 1099511627776
        · rw [decide_eq_true h2, if_pos h2]
          simp only [crossbarref28_Reserve.j1]
          have hfi := find_sorted ha.holds (by omega) ref s b (k + 1) (by omega)
          have h3 := rj3 (ref := ref) ha hg h2.1 h2.2 k (by omega)
          have e1 : cost b l tl ref now = totalP tl ((atH ref now l).f2 + lasts tl b now (atH ref now l).f2) - totalP tl (atH ref now l).f2 := rfl
          have e2 : putH b l tl ref now = (withH ref now l).set (placeH ref l) ⟨(atH ref now l).f0, (atH ref now l).f1 + (totalP tl ((atH ref now l).f2 + lasts tl b now (atH ref now l).f2) - totalP tl (atH ref now l).f2), (atH ref now l).f2 + lasts tl b now (atH ref now l).f2⟩ := by rw [at_ref]; rfl
          rw [if_neg (by simp)]
          cases hf : foundH ref l with
          | true =>
            have hi := found_lt hf
            rw [if_pos hf] at hfi
            rw [hfi, Option.bind_some, if_neg (by omega), if_neg (by rintro ⟨h, _⟩; cases h)]
            simp only [crossbarref28_Reserve.j2]
            rw [if_neg (by simp), if_pos (by omega), if_pos (by omega), if_pos (by omega)]
            have ea := (at_found (now := now) hf).2
            rw [← ea, at_ref]
            rw [e2] at h3
            rw [at_ref] at h3
            exact h3
          | false =>
            rw [if_neg (by rw [hf]; simp)] at hfi
            rw [hfi, Option.bind_some, if_pos (by omega)]
            simp only [crossbarref28_Reserve.j2]
            by_cases h4 : l.length = 1024
            · rw [if_pos (by rw [h4]; rfl), if_pos (show True ∧ l.length = 1024 from ⟨trivial, h4⟩)]
            · rw [if_neg (by rw [beq_iff_eq]; omega), if_neg (show ¬ (-1 : Int) ≥ 0 by omega), if_neg (show ¬ (True ∧ l.length = 1024) from fun h => h4 h.2)]
              have ea := (at_new (now := now) hf).2
              have q1 : unH ref now l = 0 := by unfold unH; rw [ea]
              have q2 : stH ref now l = now := by unfold stH; rw [ea]
              rw [e2, at_ref] at h3
              rw [at_ref]
              refine Eq.trans ?_ h3
              rw [q1, q2]
        · rw [decide_eq_false h2, if_neg h2]
          exact j1t
      · rw [if_neg h1]
        by_cases h0 : ref < 1
        · rw [if_pos h0, j1t]
        · rw [if_neg h0, rwithin_is, Option.bind_some, if_neg (by simp; omega), j1t]
    · rw [if_neg hg, if_neg hg, j0e 260 (by omega)]
  · rw [if_neg hp, if_neg hp, j0e _ hp]
end Go.Proofs.YtldpacphackdjaaDoor.Print
/- That the printed law PrepaidMatchesReserve answers true at every account, tariff, call and time. No condition that the law itself does not guard. -/
namespace Go.Proofs.YtldpacphackdjaaDoor.Print
open Go.RowKit Go.Proofs.YtldpacphackdjaaDoorW.PrintWords Go.Proofs.YtldpacphackdjaaDoorW.PrintLast Go.Proofs.YtldpacphackdjaaDoorW.PrintMore
set_option linter.unusedVariables false
theorem PrepaidMatchesReserve_pure (s : ByteArray) (b : Int) (l : List S54) (tl : List S70) (ref now : Int) (hs : s.size ≤ maxLen) (hb : Rng b) (hn : l.length ≤ 9223372036854775807) (hw : ∀ x ∈ l, Rng x.f0 ∧ Rng x.f1 ∧ Rng x.f2) (hn1 : tl.length ≤ 9223372036854775807) (hw1 : ∀ x ∈ tl, Rng x.f0 ∧ Rng x.f1) (w1 : (Lit.int .i64 ref).wf = true) (w2 : (Lit.int .i64 now).wf = true) : ∃ k, crossbarlaw28_PrepaidMatchesReserve.f k s b l tl ref now = some true := by
  refine ⟨6000, ?_⟩
  unfold crossbarlaw28_PrepaidMatchesReserve.f
  rw [sane28_is 6000 (by omega), Option.bind_some, if_pos rfl, few28_is, Option.bind_some]
  by_cases hf : l.length ≤ 1100 ∧ s.size ≤ 100 ∧ tl.length ≤ 100
  · rw [if_pos (decide_eq_true hf), rreserve_is s b l tl ref now 6000 (by omega)]
    by_cases hok : ROk s b l tl ref now
    · have hl := (put_len hok).1
      rw [reserve_ok hok]
      simp only [Option.bind_some]
      rw [same_refl s _ _ (by omega) 6000 (by omega)]
      simp
    · obtain ⟨e, he, hne⟩ := reserve_err hok
      rw [he]
      simp only [Option.bind_some]
      rw [same_refl _ _ _ (by simp) 6000 (by simp)]
      simp
  · rw [if_neg (by simpa using hf)]
end Go.Proofs.YtldpacphackdjaaDoor.Print
