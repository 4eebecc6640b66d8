/- Parts of the proofs of layer 28's laws, joined in one file by a program of the session; each part begins with its own sentence. -/
import Derived.Test.YtldpacphackdjaaDoorZaSq
import Derived.Test.YtldpacphackdjaaDoorZa4
import Derived.Test.YtldpacphackdjaaDoorZa5
import Derived.Test.YtldpacphackdjaaDoorZaK0
import Derived.Test.YtldpacphackdjaaDoorZaF21
import Derived.Test.YtldpacphackdjaaDoorZa6
import Derived.Laws.BitsLemmas
/- That the call of function 5 (crossbarlaw28_PrepaidChunksAffordAll) answers what the Lean function of the same name answers, at every input at which that one answers. (Written by a program of the session, which drives the kit's printer.) -/
namespace Go.Proofs.YtldpacphackdjaaDoor.Print
open Go.RowKit Go.Proofs.YtldpacphackdjaaDoorW.PrintWords Go.Proofs.YtldpacphackdjaaDoorW.PrintLast Go.Proofs.YtldpacphackdjaaDoorW.PrintMore
attribute [local go_sem] max2_int min2_int max_two min_two max_three min_three max_four min_four   -- for this text's walks alone
set_option linter.unusedVariables false
set_option linter.unusedSimpArgs false

/-! ### crossbarlaw28_PrepaidChunksAffordAll: function 5 -/
mutual
def crossbarlaw28_PrepaidChunksAffordAll.j0 : Nat → Int → Int → Int → Int → Bool → List (S70) → Option (Bool)
 | 0, _, _, _, _, _, _ => none
 | k + 1, x1, x2, x3, x4, x31, x278000 => if x31 = true then (some true) else (crossbarlaw28_PrepaidChunksAffordAll.l0 k x1 x2 x3 (Go.bits .and .i64 x4 31) x3 0 x278000 (⟨#[49]⟩ : ByteArray) x1 ([] : List (S54)))
def crossbarlaw28_PrepaidChunksAffordAll.j3 : Nat → Int → Int → Int → Int → List (S70) → ByteArray → Int → List (S54) → Option (Bool)
 | 0, _, _, _, _, _, _, _, _ => none
 | k + 1, x1, x3, x12, x13, x278000, x280000, x280001, x280002 => if x13 = x3 then (some true) else ((tariff_Afford.f x278000 x3 x1 (wrap64 (x12 * 30))).bind fun bt288 => ((tariff_Price.f k x278000 x3 x13).bind fun bt290 => (if bt288.2 = 0 then (if bt290.2 = 0 then (if (wrap64 (x13 - x3)) = bt288.1 then (if (wrap64 (x1 - x280001)) = bt290.1 then (if (x280002.length : Int) = 1 then (if 0 < (x280002.length : Int) then (if ((rd_T54 x280002 0).f1) = bt290.1 then (some (((rd_T54 x280002 0).f2) == x13)) else (some false)) else (none)) else (some false)) else (some false)) else (some false)) else (some false)) else (some false))))
def crossbarlaw28_PrepaidChunksAffordAll.l0 : Nat → Int → Int → Int → Int → Int → Int → List (S70) → ByteArray → Int → List (S54) → Option (Bool)
 | 0, _, _, _, _, _, _, _, _, _, _ => none
 | k + 1, x1, x2, x3, x12, x13, x14, x278000, x280000, x280001, x280002 => if x14 < x12 then ((prepaid_Reserve.f x280000 x280001 x280002 x278000 x2 x13).bind fun bt280 => (if bt280.2.2.2.2 = 0 then (crossbarlaw28_PrepaidChunksAffordAll.j2 k x1 x2 x3 x12 x13 x14 bt280.2.2.2.1 bt280.2.2.2.2 false x278000 x280000 x280001 x280002 bt280.1 bt280.2.1 bt280.2.2.1) else (if x14 > 0 then (crossbarlaw28_PrepaidChunksAffordAll.j2 k x1 x2 x3 x12 x13 x14 bt280.2.2.2.1 bt280.2.2.2.2 (bt280.2.2.2.2 != 280) x278000 x280000 x280001 x280002 bt280.1 bt280.2.1 bt280.2.2.1) else (crossbarlaw28_PrepaidChunksAffordAll.j2 k x1 x2 x3 x12 x13 x14 bt280.2.2.2.1 bt280.2.2.2.2 false x278000 x280000 x280001 x280002 bt280.1 bt280.2.1 bt280.2.2.1)))) else (crossbarlaw28_PrepaidChunksAffordAll.j3 k x1 x3 x12 x13 x278000 x280000 x280001 x280002)
def crossbarlaw28_PrepaidChunksAffordAll.j2 : Nat → Int → Int → Int → Int → Int → Int → Int → Int → Bool → List (S70) → ByteArray → Int → List (S54) → ByteArray → Int → List (S54) → Option (Bool)
 | 0, _, _, _, _, _, _, _, _, _, _, _, _, _, _, _, _ => none
 | k + 1, x1, x2, x3, x12, x13, x14, x16, x17, x60, x278000, x280000, x280001, x280002, x288000, x288001, x288002 => if x60 = true then (some false) else (if x17 = 0 then (crossbarlaw28_PrepaidChunksAffordAll.l0 k x1 x2 x3 x12 x16 (wrap64 (x14 + 1)) x278000 x288000 x288001 x288002) else (crossbarlaw28_PrepaidChunksAffordAll.j3 k x1 x3 x12 x13 x278000 x280000 x280001 x280002))
end
def crossbarlaw28_PrepaidChunksAffordAll.f (k : Nat) (l0_0 : List (S70)) (a1 : Int) (a2 : Int) (a3 : Int) (a4 : Int) : Option (Bool) := (crossbarlaw28_sane.f k).bind fun t278 => (if t278 = true then (if (l0_0.length : Int) > 100 then (crossbarlaw28_PrepaidChunksAffordAll.j0 k a1 a2 a3 a4 true l0_0) else (crossbarlaw28_PrepaidChunksAffordAll.j0 k a1 a2 a3 a4 (decide (a3 > 1099511527776)) l0_0)) else (some false))
set_option maxHeartbeats 8000000 in
set_option maxRecDepth 100000 in
theorem crossbarlaw28_PrepaidChunksAffordAll.calls (k : Nat) (A0_0 : Option Addr) (c0_0 : Nat) (l0_0 : List (S70)) (a1 : Int) (a2 : Int) (a3 : Int) (a4 : Int) (r : Bool) (w : World) (hr0_0 : Kd.C k70 w A0_0 l0_0.length l0_0) (hc0_0 : l0_0.length ≤ c0_0) (h : crossbarlaw28_PrepaidChunksAffordAll.f k l0_0 a1 a2 a3 a4 = some r) (hT : r = true := by rfl) :
  Calls Tryd.prog 5 #[.agg #[.slice A0_0 l0_0.length c0_0], .int .i64 a1, .int .i64 a2, .int .i64 a3, .int .i64 a4] w fun e w' => e = .returned (.bool r) ∧ Below w.heap.size w w' := by
 have HT_TRUE := Aside0.mk hT
 clear hT
 have hu24 := Tryd.underlying24
 have hu31 := Tryd.underlying31
 have HR0_0 := Aside0.mk hr0_0
 have HC0_0 := Aside0.mk hc0_0
 clear hr0_0 hc0_0
 have HB := Aside0.mk (Below.refl w.heap.size w)
 have H : ((crossbarlaw28_sane.f k).bind fun t278 => (if t278 = true then (if (l0_0.length : Int) > 100 then (crossbarlaw28_PrepaidChunksAffordAll.j0 k a1 a2 a3 a4 true l0_0) else (crossbarlaw28_PrepaidChunksAffordAll.j0 k a1 a2 a3 a4 (decide (a3 > 1099511527776)) l0_0)) else (some false))) = some r := h
 clear h
 replace H := Option.bind_eq_some_iff.mp H
 obtain ⟨t278, A60, H⟩ := H
 replace H : (if t278 = true then (if (l0_0.length : Int) > 100 then (crossbarlaw28_PrepaidChunksAffordAll.j0 k a1 a2 a3 a4 true l0_0) else (crossbarlaw28_PrepaidChunksAffordAll.j0 k a1 a2 a3 a4 (decide (a3 > 1099511527776)) l0_0)) else (some false)) = some r := H
 have A6 := Aside0.mk A60
 clear A60
 by_cases c7 : t278 = true
 ·subst c7
  have H1 : (if (l0_0.length : Int) > 100 then (crossbarlaw28_PrepaidChunksAffordAll.j0 k a1 a2 a3 a4 true l0_0) else (crossbarlaw28_PrepaidChunksAffordAll.j0 k a1 a2 a3 a4 (decide (a3 > 1099511527776)) l0_0)) = some r := by rw [if_pos rfl] at H; exact H
  clear H
  have H := H1
  clear H1
  have HC8 := Aside0.mk H
  clear H
  go_enter Tryd.func5, Tryd.ntmps5
  go_upto_region 3 with (first | ((with_reducible refine gate_dst (N := 5) rfl ?_); (try (refine gate_guard (by rfl) ?_; dsimp only)); refine box_event ?hg (N := 5) ?hd (cs := #[.slice A0_0 l0_0.length c0_0]) (t := 24) ?hr ?_; (case hd => rfl); (case hg => rfl); (case hr => first | (go_simp; done) | (go_simp; rfl)); intro gb277 hg w9 hbox hb; have n0_ := ls0 HB hb; have n1_ := Aside0.mk (hbox); have n2_ := Aside0.mk ((by rw [hg]; exact (below_size (lb0 HB)) : w.heap.size ≤ gb277)); have n3_ := Aside0.mk ((by rw [hg]; exact (below_size (lb0 HB)) : w.heap.size ≤ gb277)); clear HB; have HB := n0_; have BK277 := n1_; have GW277 := n2_; have GE277 := n3_; clear n0_ n1_ n2_ n3_; clear hb hbox hg) | ((with_reducible refine gate_callee (f := 21) rfl ?_); refine goesL_ (some 22) rfl rfl Tryd.func21 (by kernel_rfl) rfl #[] rfl (by (try simp only [List.map_toArray, List.map_cons, List.map_nil]); first | done | rfl | (simp only [List.length_drop, List.length_take]; rfl)) ?_; (with_reducible refine (crossbarlaw28_sane.calls k  true _ A6.out).mono ?_); rintro e w10 ⟨rfl, hb⟩; refine ⟨_, rfl, ?_⟩; have n0_ := kl BK277 hb; have n1_ := ls1 HB GE277 hb; clear BK277; clear HB; have BK277 := n0_; have HB := n1_; clear n0_ n1_; (try clear hb); (try clear hb2); (try clear hk); (try clear hi)))
  (try simp only [Act.put, List.setIfInBounds_toArray, List.set_cons_zero, List.set_cons_succ])
  go_cut [31] (fun v31 wc => ∃ (kq : Nat) (x31_7 : Bool), v31 = .bool x31_7 ∧ Aside0 (crossbarlaw28_PrepaidChunksAffordAll.j0 kq a1 a2 a3 a4 x31_7 l0_0 = some r) ∧ Aside0 (kq ≤ k) ∧ Aside0 (wc.heap[gb277]? = some (.cells #[(.slice A0_0 l0_0.length c0_0)] 24 (0, 0))) ∧ Aside0 (Below w.heap.size w wc))
  case first =>
   have H := HC8.out
   clear HC8
   by_cases c11 : (l0_0.length : Int) > 100
   ·rw [if_pos c11] at H
    have c11b0 : decide (100 < (l0_0.length : Int)) = true := decide_eq_true c11
    have c11b1 : decide (100 < l0_0.length) = true := decide_eq_true (by omega)
    clear c11
    (first | rw [c11b0] | (simp only [i64_w, i32_w]; rw [c11b0]) | skip)
    have H' := Aside0.mk H
    clear H
    have hcz12_0 := bc BK277 0
    have hfz12_0 := blk_frozen BK277.out 0
    go_wp2
    go_meet
    case rel => exact ⟨_, (true), (by first | rfl | (simp; done) | (simp [*]; done)), H', ⟨by first | omega | exact Nat.le_refl _⟩, ⟨kb BK277⟩, ⟨lb1 HB GE277⟩⟩
   ·rw [if_neg c11] at H
    have c11b0 : decide (100 < (l0_0.length : Int)) = false := decide_eq_false c11
    have c11b1 : decide (100 < l0_0.length) = false := decide_eq_false (by omega)
    clear c11
    (first | rw [c11b0] | (simp only [i64_w, i32_w]; rw [c11b0]) | skip)
    have H' := Aside0.mk H
    clear H
    have hcz13_0 := bc BK277 0
    have hfz13_0 := blk_frozen BK277.out 0
    go_wp2
    go_meet
    case rel => exact ⟨_, (decide (a3 > 1099511527776)), (by first | rfl | (simp; done) | (simp [*]; done)), H', ⟨by first | omega | exact Nat.le_refl _⟩, ⟨kb BK277⟩, ⟨lb1 HB GE277⟩⟩
  case rest =>
   clear HC8
   try clear c1; try clear c2; try clear p2; try clear c5; try clear c7; try clear c11; try clear c11b0; try clear c11b1; try clear hcz12_0; try clear hcz13_0; try clear hfz12_0; try clear hfz13_0
   obtain ⟨kq, x31_7, rfl, HA, HJ7, BK277, HB⟩ := hcut
   cases kq with
   | zero => exact absurd HA.out (by simp [crossbarlaw28_PrepaidChunksAffordAll.j0])
   | succ kj7 =>
    have H := HA.out
    clear HA
    simp only [crossbarlaw28_PrepaidChunksAffordAll.j0] at H
    by_cases c14 : x31_7 = true
    ·subst c14
     have H1 : (some true) = some r := by rw [if_pos rfl] at H; exact H
     clear H
     have H := H1
     clear H1
     obtain rfl := Option.some.inj H
     go_wp2
     go_ret
     exact ⟨by first | rfl | (simp [errW_none, errW_some] <;> rfl) | (simp [*, errW_none, errW_some] <;> rfl), lb1 HB GE277⟩
    ·replace c14 := Bool.eq_false_iff.mpr c14
     subst c14
     have H1 : (crossbarlaw28_PrepaidChunksAffordAll.l0 kj7 a1 a2 a3 (Go.bits .and .i64 a4 31) a3 0 l0_0 (⟨#[49]⟩ : ByteArray) a1 ([] : List (S54))) = some r := by rw [if_neg (show ¬ (false = true) by decide)] at H; exact H
     clear H
     have H := H1
     clear H1
     have HC15 := Aside0.mk H
     clear H
     go_upto_block 0 with (first | ((with_reducible refine gate_dst (N := 11) rfl ?_); (try (refine gate_guard (by rfl) ?_; dsimp only)); refine box_event ?hg (N := 11) ?hd (cs := #[.string (⟨#[]⟩ : ByteArray), .int .i64 0, .slice none 0 0]) (t := 31) ?hr ?_; (case hd => rfl); (case hg => rfl); (case hr => first | (go_simp; done) | (go_simp; rfl)); intro gb279 hg w16 hbox hb; have n0_ := kl BK277 hb; have n1_ := ls1 HB GE277 hb; have n2_ := Aside0.mk (hbox); have n3_ := Aside0.mk ((by rw [hg]; exact (below_size (lb1 HB GE277)) : w.heap.size ≤ gb279)); have n4_ := Aside0.mk ((by rw [hg]; exact (below_size (lb1 HB GE277)) : w.heap.size ≤ gb279)); have n5_ := kn BK277 hg; have n6_ := km BK277 hg; clear BK277; clear HB; have BK277 := n0_; have HB := n1_; have BK279 := n2_; have GW279 := n3_; have GE279 := n4_; have NB277_279 := n5_; have NB279_277 := n6_; clear n0_ n1_ n2_ n3_ n4_ n5_ n6_; clear hb hbox hg; have hnb17 := NB279_277.out; have hnc17 := NB277_279.out; have hcz18_0 := bc BK279 0; have hcz18_1 := bc BK279 1; have hcz18_2 := bc BK279 2; have hfz18_0 := blk_frozen BK279.out 0; have hfz18_1 := blk_frozen BK279.out 1; have hfz18_2 := blk_frozen BK279.out 2))
     (try simp only [Act.put, List.setIfInBounds_toArray, List.set_cons_zero, List.set_cons_succ])
     go_cut [13] (fun v13 wc => ∃ (kq : Nat) (x13_14 : Int) (x280000_14 : ByteArray) (x280001_14 : Int) (x280002_14 : List (S54)) (u280002 : Value), v13 = .int .i64 x13_14 ∧ Aside0 (crossbarlaw28_PrepaidChunksAffordAll.j3 kq a1 a3 (Go.bits .and .i64 a4 31) x13_14 l0_0 x280000_14 x280001_14 x280002_14 = some r) ∧ Aside0 (kq ≤ kj7) ∧ Aside0 (Kd.R k54 54 wc w.heap.size (fun _ => True) u280002 x280002_14) ∧ Aside0 (wc.heap[gb277]? = some (.cells #[(.slice A0_0 l0_0.length c0_0)] 24 (0, 0))) ∧ Aside0 (wc.heap[gb279]? = some (.cells #[.string x280000_14, .int .i64 x280001_14, u280002] 31 (0, 0))) ∧ Aside0 (Below w.heap.size w wc))
     case first =>
      have H := HC15.out
      clear HC15
      have H' := Aside0.mk H
      clear H
      go_wp2
      go_loopg [13, 14] kj7 (fun kq v13 v14 w' => ∃ (x13_2 : Int) (x14_2 : Int) (x280000_2 : ByteArray) (x280001_2 : Int) (x280002_2 : List (S54)) (u280002 : Value), v13 = .int .i64 x13_2 ∧ v14 = .int .i64 x14_2 ∧ Aside0 (crossbarlaw28_PrepaidChunksAffordAll.l0 kq a1 a2 a3 (Go.bits .and .i64 a4 31) x13_2 x14_2 l0_0 x280000_2 x280001_2 x280002_2 = some r) ∧ Aside0 (kq ≤ kj7) ∧ Aside0 (Kd.R k54 54 w' w.heap.size (fun _ => True) u280002 x280002_2) ∧ Aside0 (w'.heap[gb277]? = some (.cells #[(.slice A0_0 l0_0.length c0_0)] 24 (0, 0))) ∧ Aside0 (w'.heap[gb279]? = some (.cells #[.string x280000_2, .int .i64 x280001_2, u280002] 31 (0, 0))) ∧ Aside0 (Below w.heap.size w w'))
      case atStart => exact ⟨(a3), (0), ((⟨#[49]⟩ : ByteArray)), (a1), (([] : List (S54))), (.slice none 0 0), (by first | rfl | (simp; done) | (simp [*]; done)), (by first | rfl | (simp; done) | (simp [*]; done)), H', ⟨Nat.le_refl _⟩, ⟨by first | exact Kd.R_nil _ _ _ _ _ | exact Kd.N_nil _ _ _ _ _ | exact Kd.V_nil _ _ _ _ _ | exact Kd.Q_nil _ _ _ _ _ | exact Kd.S_nil _ _ _ _ _⟩, ⟨kf1 BK277 NB277_279⟩, ⟨by (with_reducible repeat (first | refine blk_drewN ?_ _ | refine blk_drew ?_ | refine blk_alloc ?_ _)); refine blk_put (cs := #[.string (⟨#[49]⟩ : ByteArray), .int .i64 a1, .slice none 0 0]) ?_ 2 _ rfl; (with_reducible repeat (first | refine blk_drewN ?_ _ | refine blk_drew ?_ | refine blk_alloc ?_ _)); refine blk_put (cs := #[.string (⟨#[49]⟩ : ByteArray), .int .i64 0, .slice none 0 0]) ?_ 1 _ rfl; (with_reducible repeat (first | refine blk_drewN ?_ _ | refine blk_drew ?_ | refine blk_alloc ?_ _)); refine blk_put (cs := #[.string (⟨#[]⟩ : ByteArray), .int .i64 0, .slice none 0 0]) ?_ 0 _ rfl; (with_reducible repeat (first | refine blk_drewN ?_ _ | refine blk_drew ?_ | refine blk_alloc ?_ _)); exact BK279.out⟩, ⟨lb2 HB GE277 GE279⟩⟩
      case round =>
       clear H'
       try clear c1; try clear c2; try clear p2; try clear c5; try clear c7; try clear c11; try clear c11b0; try clear c11b1; try clear c14; try clear c17; try clear hcz12_0; try clear hcz13_0; try clear hcz18_0; try clear hcz18_1; try clear hcz18_2; try clear hfz12_0; try clear hfz13_0; try clear hfz18_0; try clear hfz18_1; try clear hfz18_2; try clear p2
       obtain ⟨x13_2, x14_2, x280000_2, x280001_2, x280002_2, u280002, rfl, rfl, HA, HK2, HO_280002, BK277, BK279, HB⟩ := hrel
       cases gk with
       | zero => exact absurd HA.out (by simp [crossbarlaw28_PrepaidChunksAffordAll.l0])
       | succ k2 =>
        have H := HA.out
        clear HA
        simp only [crossbarlaw28_PrepaidChunksAffordAll.l0] at H
        by_cases c19 : x14_2 < (Go.bits .and .i64 a4 31)
        ·rw [if_pos c19] at H
         have c19b0 : decide (x14_2 < (Go.bits .and .i64 a4 31)) = true := decide_eq_true c19
         clear c19
         (first | rw [c19b0] | (simp only [i64_w, i32_w]; rw [c19b0]) | skip)
         replace H := Option.bind_eq_some_iff.mp H
         obtain ⟨⟨t280, t281, t282, t285, t286⟩, A200, H⟩ := H
         replace H : (if t286 = 0 then (crossbarlaw28_PrepaidChunksAffordAll.j2 k2 a1 a2 a3 (Go.bits .and .i64 a4 31) x13_2 x14_2 t285 t286 false l0_0 x280000_2 x280001_2 x280002_2 t280 t281 t282) else (if x14_2 > 0 then (crossbarlaw28_PrepaidChunksAffordAll.j2 k2 a1 a2 a3 (Go.bits .and .i64 a4 31) x13_2 x14_2 t285 t286 (t286 != 280) l0_0 x280000_2 x280001_2 x280002_2 t280 t281 t282) else (crossbarlaw28_PrepaidChunksAffordAll.j2 k2 a1 a2 a3 (Go.bits .and .i64 a4 31) x13_2 x14_2 t285 t286 false l0_0 x280000_2 x280001_2 x280002_2 t280 t281 t282))) = some r := H
         have A20 := Aside0.mk A200
         clear A200
         have HC21 := Aside0.mk H
         clear H
         have hnb22 := NB279_277.out
         have hnc22 := NB277_279.out
         have hcz23_0 := bc BK279 0
         have hcz23_1 := bc BK279 1
         have hcz23_2 := bc BK279 2
         have hfz23_0 := blk_frozen BK279.out 0
         have hfz23_1 := blk_frozen BK279.out 1
         have hfz23_2 := blk_frozen BK279.out 2
         have hcz24_0 := bc BK277 0
         have hfz24_0 := blk_frozen BK277.out 0
         obtain ⟨Ao25, co25, eo25⟩ := Kd.R_slice HO_280002.out
         subst eo25
         go_upto_region 12 with (first | ((with_reducible refine gate_callee (f := 14) rfl ?_); refine goesL_ (some 47) rfl rfl Tryd.func14 (by kernel_rfl) rfl #[.agg #[.string x280000_2, .int .i64 x280001_2, .slice Ao25 x280002_2.length co25], .agg #[.slice A0_0 l0_0.length c0_0], .int .i64 a2, .int .i64 x13_2] rfl (by (try simp only [List.map_toArray, List.map_cons, List.map_nil]); first | done | rfl | (simp only [List.length_drop, List.length_take]; rfl)) ?_; (with_reducible refine (prepaid_Reserve.calls x280000_2 x280001_2 _ _ x280002_2 _ _ l0_0 a2 x13_2 t280 t281 t282 t285 t286 _ ?side1 ?side2 ?side3 ?side4 A20.out).mono ?_); (case side1 => repeat (first | exact (Kd.R_reads' HO_280002.out).2.2 | (with_reducible refine Kd.C_alloc ?_ _) | (with_reducible refine Kd.C_drewN ?_ _) | (with_reducible refine Kd.C_drew ?_))); (case side2 => exact (Kd.R_reads' HO_280002.out).2.1); (case side3 => repeat (first | exact (Kd.C_below HR0_0.out HB.out) | (with_reducible refine Kd.C_alloc ?_ _) | (with_reducible refine Kd.C_drewN ?_ _) | (with_reducible refine Kd.C_drew ?_))); (case side4 => exact HC0_0.out); rintro e w26 ⟨v283, rfl, ho0, hb⟩; refine ⟨_, rfl, ?_⟩; have n0_ := Aside0.mk (Kd.R_elder' (rk HO_280002) (Kd.R_base ho0) hb); have n1_ := Aside0.mk (Kd.R_lower (Kd.R_new' ho0 (Kd.R_lt (rk HO_280002))) (below_size (lb2 HB GE277 GE279))); have n2_ := kl BK277 hb; have n3_ := kl BK279 hb; have n4_ := ls2 HB GE277 GE279 hb; clear HO_280002; clear BK277; clear BK279; clear HB; have HO_280002 := n0_; have HO284 := n1_; have BK277 := n2_; have BK279 := n3_; have HB := n4_; clear n0_ n1_ n2_ n3_ n4_; (try clear hb); (try clear hb2); (try clear hk); (try clear hi); (try clear ho0)) | ((with_reducible refine gate_dst (N := 15) rfl ?_); (try (refine gate_guard (by rfl) ?_; dsimp only)); refine box_event ?hg (N := 15) ?hd (cs := #[.string (⟨#[]⟩ : ByteArray), .int .i64 0, .slice none 0 0]) (t := 31) ?hr ?_; (case hd => rfl); (case hg => rfl); (case hr => first | (go_simp; done) | (go_simp; rfl)); intro gb287 hg w27 hbox hb; have n0_ := Aside0.mk (Kd.R_below (rk HO_280002) hb); have n1_ := Aside0.mk (Kd.R_below (rk HO284) hb); have n2_ := kl BK277 hb; have n3_ := kl BK279 hb; have n4_ := ls2 HB GE277 GE279 hb; have n5_ := Aside0.mk (hbox); have n6_ := Aside0.mk ((by rw [hg]; exact (below_size (lb2 HB GE277 GE279)) : w.heap.size ≤ gb287)); have n7_ := Aside0.mk ((by rw [hg]; exact (below_size (lb2 HB GE277 GE279)) : w.heap.size ≤ gb287)); have n8_ := kn BK277 hg; have n9_ := km BK277 hg; have n10_ := kn BK279 hg; have n11_ := km BK279 hg; clear HO_280002; clear HO284; clear BK277; clear BK279; clear HB; have HO_280002 := n0_; have HO284 := n1_; have BK277 := n2_; have BK279 := n3_; have HB := n4_; have BK287 := n5_; have GW287 := n6_; have GE287 := n7_; have NB277_287 := n8_; have NB287_277 := n9_; have NB279_287 := n10_; have NB287_279 := n11_; clear n0_ n1_ n2_ n3_ n4_ n5_ n6_ n7_ n8_ n9_ n10_ n11_; clear hb hbox hg; have hnb28 := NB287_277.out; have hnc28 := NB277_287.out; have hnb29 := NB287_279.out; have hnc29 := NB279_287.out; have hcz30_0 := bc BK287 0; have hcz30_1 := bc BK287 1; have hcz30_2 := bc BK287 2; have hfz30_0 := blk_frozen BK287.out 0; have hfz30_1 := blk_frozen BK287.out 1; have hfz30_2 := blk_frozen BK287.out 2; obtain ⟨Ao31, co31, eo31⟩ := Kd.R_slice HO284.out; subst eo31))
         (try simp only [Act.put, List.setIfInBounds_toArray, List.set_cons_zero, List.set_cons_succ])
         go_cut [60] (fun v60 wc => ∃ (kq : Nat) (x60_20 : Bool), v60 = .bool x60_20 ∧ Aside0 (crossbarlaw28_PrepaidChunksAffordAll.j2 kq a1 a2 a3 (Go.bits .and .i64 a4 31) x13_2 x14_2 t285 t286 x60_20 l0_0 x280000_2 x280001_2 x280002_2 t280 t281 t282 = some r) ∧ Aside0 (kq ≤ k2) ∧ Aside0 (Kd.R k54 54 wc w.heap.size (fun k_ => some k_ ≠ ((.slice Ao31 t282.length co31) : Value).ownBlock) (.slice Ao25 x280002_2.length co25) x280002_2) ∧ Aside0 (Kd.R k54 54 wc w.heap.size (fun k_ => some k_ ≠ ((.slice Ao25 x280002_2.length co25) : Value).ownBlock) (.slice Ao31 t282.length co31) t282) ∧ Aside0 (wc.heap[gb277]? = some (.cells #[(.slice A0_0 l0_0.length c0_0)] 24 (0, 0))) ∧ Aside0 (wc.heap[gb279]? = some (.cells #[.string x280000_2, .int .i64 x280001_2, (.slice Ao25 x280002_2.length co25)] 31 (0, 0))) ∧ Aside0 (wc.heap[gb287]? = some (.cells #[.string t280, .int .i64 t281, (.slice Ao31 t282.length co31)] 31 (0, 0))) ∧ Aside0 (Below w.heap.size w wc))
         case first =>
          have H := HC21.out
          clear HC21
          by_cases c32 : t286 = 0
          ·rw [if_pos c32] at H
           have c32b0 : (t286 == 0) = true := beq_iff_eq.mpr c32
           have c32b1 : (t286 != 0) = false := bne_eq_false_iff_eq.mpr c32
           clear c32
           (first | rw [c32b0] | (simp only [i64_w, i32_w]; rw [c32b0]) | skip)
           have H' := Aside0.mk H
           clear H
           go_wp2
           go_meet
           case rel => exact ⟨_, (false), (by first | rfl | (simp; done) | (simp [*]; done)), H', ⟨by have := HJ7.out; have := HK2.out; first | omega | exact Nat.le_refl _⟩, ⟨by (with_reducible repeat (first | apply Kd.R_alloc | apply Kd.R_drewN | apply Kd.R_drew)); exact Kd.R_mono (Kd.R_far (p := ⟨gb287, 2, none⟩) (Kd.R_far (p := ⟨gb287, 1, none⟩) (Kd.R_far (p := ⟨gb287, 0, none⟩) (Kd.R_types HO_280002.out BK287.out (by decide)) (fun _ hk => hk.2) (.string t280)) (fun _ hk => hk.2) (.int .i64 t281)) (fun _ hk => hk.2) (.slice Ao31 t282.length co31)) (fun _ hk => hk.1.2)⟩, ⟨by (with_reducible repeat (first | apply Kd.R_alloc | apply Kd.R_drewN | apply Kd.R_drew)); exact Kd.R_mono (Kd.R_far (p := ⟨gb287, 2, none⟩) (Kd.R_far (p := ⟨gb287, 1, none⟩) (Kd.R_far (p := ⟨gb287, 0, none⟩) (Kd.R_types HO284.out BK287.out (by decide)) (fun _ hk => hk.2) (.string t280)) (fun _ hk => hk.2) (.int .i64 t281)) (fun _ hk => hk.2) (.slice Ao31 t282.length co31)) (fun _ hk => hk.1.2)⟩, ⟨kf1 BK277 NB277_287⟩, ⟨kf1 BK279 NB279_287⟩, ⟨by (with_reducible repeat (first | refine blk_drewN ?_ _ | refine blk_drew ?_ | refine blk_alloc ?_ _)); refine blk_put (cs := #[.string t280, .int .i64 t281, .slice none 0 0]) ?_ 2 _ rfl; (with_reducible repeat (first | refine blk_drewN ?_ _ | refine blk_drew ?_ | refine blk_alloc ?_ _)); refine blk_put (cs := #[.string t280, .int .i64 0, .slice none 0 0]) ?_ 1 _ rfl; (with_reducible repeat (first | refine blk_drewN ?_ _ | refine blk_drew ?_ | refine blk_alloc ?_ _)); refine blk_put (cs := #[.string (⟨#[]⟩ : ByteArray), .int .i64 0, .slice none 0 0]) ?_ 0 _ rfl; (with_reducible repeat (first | refine blk_drewN ?_ _ | refine blk_drew ?_ | refine blk_alloc ?_ _)); exact BK287.out⟩, ⟨lb3 HB GE277 GE279 GE287⟩⟩
          ·rw [if_neg c32] at H
           have c32b0 : (t286 == 0) = false := beq_eq_false_iff_ne.mpr c32
           have c32b1 : (t286 != 0) = true := bne_iff_ne.mpr c32
           (first | rw [c32b0] | (simp only [i64_w, i32_w]; rw [c32b0]) | skip)
           by_cases c33 : x14_2 > 0
           ·rw [if_pos c33] at H
            have c33b0 : decide (0 < x14_2) = true := decide_eq_true c33
            clear c33
            have H' := Aside0.mk H
            clear H
            go_wp2
            go_meet
            case rel => exact ⟨_, ((t286 != 280)), (by first | rfl | (simp; done) | (simp [*]; done)), H', ⟨by have := HJ7.out; have := HK2.out; first | omega | exact Nat.le_refl _⟩, ⟨by (with_reducible repeat (first | apply Kd.R_alloc | apply Kd.R_drewN | apply Kd.R_drew)); exact Kd.R_mono (Kd.R_far (p := ⟨gb287, 2, none⟩) (Kd.R_far (p := ⟨gb287, 1, none⟩) (Kd.R_far (p := ⟨gb287, 0, none⟩) (Kd.R_types HO_280002.out BK287.out (by decide)) (fun _ hk => hk.2) (.string t280)) (fun _ hk => hk.2) (.int .i64 t281)) (fun _ hk => hk.2) (.slice Ao31 t282.length co31)) (fun _ hk => hk.1.2)⟩, ⟨by (with_reducible repeat (first | apply Kd.R_alloc | apply Kd.R_drewN | apply Kd.R_drew)); exact Kd.R_mono (Kd.R_far (p := ⟨gb287, 2, none⟩) (Kd.R_far (p := ⟨gb287, 1, none⟩) (Kd.R_far (p := ⟨gb287, 0, none⟩) (Kd.R_types HO284.out BK287.out (by decide)) (fun _ hk => hk.2) (.string t280)) (fun _ hk => hk.2) (.int .i64 t281)) (fun _ hk => hk.2) (.slice Ao31 t282.length co31)) (fun _ hk => hk.1.2)⟩, ⟨kf1 BK277 NB277_287⟩, ⟨kf1 BK279 NB279_287⟩, ⟨by (with_reducible repeat (first | refine blk_drewN ?_ _ | refine blk_drew ?_ | refine blk_alloc ?_ _)); refine blk_put (cs := #[.string t280, .int .i64 t281, .slice none 0 0]) ?_ 2 _ rfl; (with_reducible repeat (first | refine blk_drewN ?_ _ | refine blk_drew ?_ | refine blk_alloc ?_ _)); refine blk_put (cs := #[.string t280, .int .i64 0, .slice none 0 0]) ?_ 1 _ rfl; (with_reducible repeat (first | refine blk_drewN ?_ _ | refine blk_drew ?_ | refine blk_alloc ?_ _)); refine blk_put (cs := #[.string (⟨#[]⟩ : ByteArray), .int .i64 0, .slice none 0 0]) ?_ 0 _ rfl; (with_reducible repeat (first | refine blk_drewN ?_ _ | refine blk_drew ?_ | refine blk_alloc ?_ _)); exact BK287.out⟩, ⟨lb3 HB GE277 GE279 GE287⟩⟩
           ·rw [if_neg c33] at H
            have c33b0 : decide (0 < x14_2) = false := decide_eq_false c33
            clear c33
            have H' := Aside0.mk H
            clear H
            go_wp2
            go_meet
            case rel => exact ⟨_, (false), (by first | rfl | (simp; done) | (simp [*]; done)), H', ⟨by have := HJ7.out; have := HK2.out; first | omega | exact Nat.le_refl _⟩, ⟨by (with_reducible repeat (first | apply Kd.R_alloc | apply Kd.R_drewN | apply Kd.R_drew)); exact Kd.R_mono (Kd.R_far (p := ⟨gb287, 2, none⟩) (Kd.R_far (p := ⟨gb287, 1, none⟩) (Kd.R_far (p := ⟨gb287, 0, none⟩) (Kd.R_types HO_280002.out BK287.out (by decide)) (fun _ hk => hk.2) (.string t280)) (fun _ hk => hk.2) (.int .i64 t281)) (fun _ hk => hk.2) (.slice Ao31 t282.length co31)) (fun _ hk => hk.1.2)⟩, ⟨by (with_reducible repeat (first | apply Kd.R_alloc | apply Kd.R_drewN | apply Kd.R_drew)); exact Kd.R_mono (Kd.R_far (p := ⟨gb287, 2, none⟩) (Kd.R_far (p := ⟨gb287, 1, none⟩) (Kd.R_far (p := ⟨gb287, 0, none⟩) (Kd.R_types HO284.out BK287.out (by decide)) (fun _ hk => hk.2) (.string t280)) (fun _ hk => hk.2) (.int .i64 t281)) (fun _ hk => hk.2) (.slice Ao31 t282.length co31)) (fun _ hk => hk.1.2)⟩, ⟨kf1 BK277 NB277_287⟩, ⟨kf1 BK279 NB279_287⟩, ⟨by (with_reducible repeat (first | refine blk_drewN ?_ _ | refine blk_drew ?_ | refine blk_alloc ?_ _)); refine blk_put (cs := #[.string t280, .int .i64 t281, .slice none 0 0]) ?_ 2 _ rfl; (with_reducible repeat (first | refine blk_drewN ?_ _ | refine blk_drew ?_ | refine blk_alloc ?_ _)); refine blk_put (cs := #[.string t280, .int .i64 0, .slice none 0 0]) ?_ 1 _ rfl; (with_reducible repeat (first | refine blk_drewN ?_ _ | refine blk_drew ?_ | refine blk_alloc ?_ _)); refine blk_put (cs := #[.string (⟨#[]⟩ : ByteArray), .int .i64 0, .slice none 0 0]) ?_ 0 _ rfl; (with_reducible repeat (first | refine blk_drewN ?_ _ | refine blk_drew ?_ | refine blk_alloc ?_ _)); exact BK287.out⟩, ⟨lb3 HB GE277 GE279 GE287⟩⟩
         case rest =>
          clear HC21
          try clear c1; try clear c2; try clear p2; try clear c3; try clear c5; try clear c7; try clear c11; try clear c11b0; try clear c11b1; try clear c14; try clear c17; try clear c19; try clear c19b0; try clear c21; try clear c22; try clear c28; try clear c29; try clear c32; try clear c32b0; try clear c32b1; try clear c33; try clear c33b0; try clear hcz12_0; try clear hcz13_0; try clear hcz18_0; try clear hcz18_1; try clear hcz18_2; try clear hcz23_0; try clear hcz23_1; try clear hcz23_2; try clear hcz24_0; try clear hcz30_0; try clear hcz30_1; try clear hcz30_2; try clear hfz12_0; try clear hfz13_0; try clear hfz18_0; try clear hfz18_1; try clear hfz18_2; try clear hfz23_0; try clear hfz23_1; try clear hfz23_2; try clear hfz24_0; try clear hfz30_0; try clear hfz30_1; try clear hfz30_2; try clear p2
          obtain ⟨kq, x60_20, rfl, HA, HJ20, HO_280002, HO_288002, BK277, BK279, BK287, HB⟩ := hcut
          cases kq with
          | zero => exact absurd HA.out (by simp [crossbarlaw28_PrepaidChunksAffordAll.j2])
          | succ kj20 =>
           have H := HA.out
           clear HA
           simp only [crossbarlaw28_PrepaidChunksAffordAll.j2] at H
           by_cases c34 : x60_20 = true
           ·subst c34
            have H1 : (some false) = some r := by rw [if_pos rfl] at H; exact H
            clear H
            have H := H1
            clear H1
            exact absurd ((Option.some.inj H).trans HT_TRUE.out) (by simp)
           ·replace c34 := Bool.eq_false_iff.mpr c34
            subst c34
            have H1 : (if t286 = 0 then (crossbarlaw28_PrepaidChunksAffordAll.l0 kj20 a1 a2 a3 (Go.bits .and .i64 a4 31) t285 (wrap64 (x14_2 + 1)) l0_0 t280 t281 t282) else (crossbarlaw28_PrepaidChunksAffordAll.j3 kj20 a1 a3 (Go.bits .and .i64 a4 31) x13_2 l0_0 x280000_2 x280001_2 x280002_2)) = some r := by rw [if_neg (show ¬ (false = true) by decide)] at H; exact H
            clear H
            have H := H1
            clear H1
            by_cases c35 : t286 = 0
            ·rw [if_pos c35] at H
             have c35b0 : (t286 == 0) = true := beq_iff_eq.mpr c35
             have c35b1 : (t286 != 0) = false := bne_eq_false_iff_eq.mpr c35
             clear c35
             have H' := Aside0.mk H
             clear H
             have hnb36 := NB287_277.out
             have hnc36 := NB277_287.out
             have hnb37 := NB287_279.out
             have hnc37 := NB279_287.out
             have hcz38_0 := bc BK287 0
             have hcz38_1 := bc BK287 1
             have hcz38_2 := bc BK287 2
             have hfz38_0 := blk_frozen BK287.out 0
             have hfz38_1 := blk_frozen BK287.out 1
             have hfz38_2 := blk_frozen BK287.out 2
             have hnb39 := NB279_277.out
             have hnc39 := NB277_279.out
             have hcz40_0 := bc BK279 0
             have hcz40_1 := bc BK279 1
             have hcz40_2 := bc BK279 2
             have hfz40_0 := blk_frozen BK279.out 0
             have hfz40_1 := blk_frozen BK279.out 1
             have hfz40_2 := blk_frozen BK279.out 2
             go_wp2
             go_roundg kj20
             case measure => have := HJ7.out; have := HK2.out; have := HJ20.out; omega
             case rel => exact ⟨(t285), (wrap64 (x14_2 + 1)), (t280), (t281), (t282), (.slice Ao31 t282.length co31), (by first | rfl | (simp; done) | (simp [*]; done)), (by first | rfl | (simp; done) | (simp [*]; done)), H', ⟨by have := HJ7.out; have := HK2.out; have := HJ20.out; omega⟩, ⟨by (with_reducible repeat (first | apply Kd.R_alloc | apply Kd.R_drewN | apply Kd.R_drew)); exact Kd.R_mono (Kd.R_far (p := ⟨gb279, 2, none⟩) (Kd.R_far (p := ⟨gb279, 1, none⟩) (Kd.R_far (p := ⟨gb279, 0, none⟩) (Kd.R_types HO_288002.out BK279.out (by decide)) (fun _ hk => hk.2) (.string t280)) (fun _ hk => hk.2) (.int .i64 t281)) (fun _ hk => hk.2) (.slice Ao31 t282.length co31)) (fun _ hk => trivial)⟩, ⟨kf1 BK277 NB277_279⟩, ⟨by (with_reducible repeat (first | refine blk_drewN ?_ _ | refine blk_drew ?_ | refine blk_alloc ?_ _)); refine blk_put (cs := #[.string t280, .int .i64 t281, .slice Ao25 x280002_2.length co25]) ?_ 2 _ rfl; (with_reducible repeat (first | refine blk_drewN ?_ _ | refine blk_drew ?_ | refine blk_alloc ?_ _)); refine blk_put (cs := #[.string t280, .int .i64 x280001_2, .slice Ao25 x280002_2.length co25]) ?_ 1 _ rfl; (with_reducible repeat (first | refine blk_drewN ?_ _ | refine blk_drew ?_ | refine blk_alloc ?_ _)); refine blk_put (cs := #[.string x280000_2, .int .i64 x280001_2, .slice Ao25 x280002_2.length co25]) ?_ 0 _ rfl; (with_reducible repeat (first | refine blk_drewN ?_ _ | refine blk_drew ?_ | refine blk_alloc ?_ _)); exact BK279.out⟩, ⟨lb3 HB GE277 GE279 GE287⟩⟩
            ·rw [if_neg c35] at H
             have c35b0 : (t286 == 0) = false := beq_eq_false_iff_ne.mpr c35
             have c35b1 : (t286 != 0) = true := bne_iff_ne.mpr c35
             have H' := Aside0.mk H
             clear H
             go_wp2
             go_meet
             case rel => exact ⟨_, (x13_2), (x280000_2), (x280001_2), (x280002_2), (.slice Ao25 x280002_2.length co25), (by first | rfl | (simp; done) | (simp [*]; done)), H', ⟨by have := HJ7.out; have := HK2.out; have := HJ20.out; first | omega | exact Nat.le_refl _⟩, ⟨by (with_reducible repeat (first | apply Kd.R_alloc | apply Kd.R_drewN | apply Kd.R_drew)); exact Kd.R_mono HO_280002.out (fun _ hk => trivial)⟩, ⟨kb BK277⟩, ⟨kb BK279⟩, ⟨lb3 HB GE277 GE279 GE287⟩⟩
        ·rw [if_neg c19] at H
         have c19b0 : decide (x14_2 < (Go.bits .and .i64 a4 31)) = false := decide_eq_false c19
         clear c19
         (first | rw [c19b0] | (simp only [i64_w, i32_w]; rw [c19b0]) | skip)
         have H' := Aside0.mk H
         clear H
         go_wp2
         go_meet
         case rel => exact ⟨_, (x13_2), (x280000_2), (x280001_2), (x280002_2), (u280002), (by first | rfl | (simp; done) | (simp [*]; done)), H', ⟨by have := HJ7.out; have := HK2.out; first | omega | exact Nat.le_refl _⟩, ⟨rk HO_280002⟩, ⟨kb BK277⟩, ⟨kb BK279⟩, ⟨lb2 HB GE277 GE279⟩⟩
     case rest =>
      clear HC15
      try clear c1; try clear c2; try clear p2; try clear c3; try clear c5; try clear p6; try clear c7; try clear c11; try clear c11b0; try clear c11b1; try clear c14; try clear c17; try clear c19; try clear c19b0; try clear c21; try clear c22; try clear c28; try clear c29; try clear c32; try clear c32b0; try clear c32b1; try clear c33; try clear c33b0; try clear c34; try clear c35; try clear c35b0; try clear c35b1; try clear c36; try clear c37; try clear c39; try clear hcz12_0; try clear hcz13_0; try clear hcz18_0; try clear hcz18_1; try clear hcz18_2; try clear hcz23_0; try clear hcz23_1; try clear hcz23_2; try clear hcz24_0; try clear hcz30_0; try clear hcz30_1; try clear hcz30_2; try clear hcz38_0; try clear hcz38_1; try clear hcz38_2; try clear hcz40_0; try clear hcz40_1; try clear hcz40_2; try clear hfz12_0; try clear hfz13_0; try clear hfz18_0; try clear hfz18_1; try clear hfz18_2; try clear hfz23_0; try clear hfz23_1; try clear hfz23_2; try clear hfz24_0; try clear hfz30_0; try clear hfz30_1; try clear hfz30_2; try clear hfz38_0; try clear hfz38_1; try clear hfz38_2; try clear hfz40_0; try clear hfz40_1; try clear hfz40_2; try clear p2
      obtain ⟨kq, x13_14, x280000_14, x280001_14, x280002_14, u280002, rfl, HA, HJ14, HO_280002, BK277, BK279, HB⟩ := hcut
      cases kq with
      | zero => exact absurd HA.out (by simp [crossbarlaw28_PrepaidChunksAffordAll.j3])
      | succ kj14 =>
       have H := HA.out
       clear HA
       simp only [crossbarlaw28_PrepaidChunksAffordAll.j3] at H
       by_cases c41 : x13_14 = a3
       ·rw [if_pos c41] at H
        have c41b0 : (x13_14 == a3) = true := beq_iff_eq.mpr c41
        have c41b1 : (x13_14 != a3) = false := bne_eq_false_iff_eq.mpr c41
        clear c41
        obtain rfl := Option.some.inj H
        go_wp2
        go_ret
        exact ⟨by first | rfl | (simp [errW_none, errW_some] <;> rfl) | (simp [*, errW_none, errW_some] <;> rfl), lb2 HB GE277 GE279⟩
       ·rw [if_neg c41] at H
        have c41b0 : (x13_14 == a3) = false := beq_eq_false_iff_ne.mpr c41
        have c41b1 : (x13_14 != a3) = true := bne_iff_ne.mpr c41
        replace H := Option.bind_eq_some_iff.mp H
        obtain ⟨⟨t288, t289⟩, A420, H⟩ := H
        replace H : ((tariff_Price.f kj14 l0_0 a3 x13_14).bind fun bt290 => (if t289 = 0 then (if bt290.2 = 0 then (if (wrap64 (x13_14 - a3)) = t288 then (if (wrap64 (a1 - x280001_14)) = bt290.1 then (if (x280002_14.length : Int) = 1 then (if 0 < (x280002_14.length : Int) then (if ((rd_T54 x280002_14 0).f1) = bt290.1 then (some (((rd_T54 x280002_14 0).f2) == x13_14)) else (some false)) else (none)) else (some false)) else (some false)) else (some false)) else (some false)) else (some false))) = some r := H
        have A42 := Aside0.mk A420
        clear A420
        replace H := Option.bind_eq_some_iff.mp H
        obtain ⟨⟨t290, t291⟩, A430, H⟩ := H
        replace H : (if t289 = 0 then (if t291 = 0 then (if (wrap64 (x13_14 - a3)) = t288 then (if (wrap64 (a1 - x280001_14)) = t290 then (if (x280002_14.length : Int) = 1 then (if 0 < (x280002_14.length : Int) then (if ((rd_T54 x280002_14 0).f1) = t290 then (some (((rd_T54 x280002_14 0).f2) == x13_14)) else (some false)) else (none)) else (some false)) else (some false)) else (some false)) else (some false)) else (some false)) = some r := H
        have A43 := Aside0.mk A430
        clear A430
        by_cases c44 : t289 = 0
        ·rw [if_pos c44] at H
         have c44b0 : (t289 == 0) = true := beq_iff_eq.mpr c44
         have c44b1 : (t289 != 0) = false := bne_eq_false_iff_eq.mpr c44
         clear c44
         by_cases c45 : t291 = 0
         ·rw [if_pos c45] at H
          have c45b0 : (t291 == 0) = true := beq_iff_eq.mpr c45
          have c45b1 : (t291 != 0) = false := bne_eq_false_iff_eq.mpr c45
          clear c45
          by_cases c46 : (wrap64 (x13_14 - a3)) = t288
          ·rw [if_pos c46] at H
           have c46b0 : ((wrap64 (x13_14 - a3)) == t288) = true := beq_iff_eq.mpr c46
           have c46b1 : ((wrap64 (x13_14 - a3)) != t288) = false := bne_eq_false_iff_eq.mpr c46
           clear c46
           by_cases c47 : (wrap64 (a1 - x280001_14)) = t290
           ·rw [if_pos c47] at H
            have c47b0 : ((wrap64 (a1 - x280001_14)) == t290) = true := beq_iff_eq.mpr c47
            have c47b1 : ((wrap64 (a1 - x280001_14)) != t290) = false := bne_eq_false_iff_eq.mpr c47
            clear c47
            by_cases c48 : (x280002_14.length : Int) = 1
            ·rw [if_pos c48] at H
             have c48b0 : ((x280002_14.length : Int) == 1) = true := beq_iff_eq.mpr c48
             have c48b1 : ((x280002_14.length : Int) != 1) = false := bne_eq_false_iff_eq.mpr c48
             clear c48
             by_cases c49 : 0 < (x280002_14.length : Int)
             ·rw [if_pos c49] at H
              have c49b0 : decide (0 < (x280002_14.length : Int)) = true := decide_eq_true c49
              have c49b1 : decide (0 < x280002_14.length) = true := decide_eq_true (by omega)
              clear c49
              by_cases c50 : ((rd_T54 x280002_14 0).f1) = t290
              ·rw [if_pos c50] at H
               have c50b0 : (((rd_T54 x280002_14 0).f1) == t290) = true := beq_iff_eq.mpr c50
               have c50b1 : (((rd_T54 x280002_14 0).f1) != t290) = false := bne_eq_false_iff_eq.mpr c50
               clear c50
               obtain rfl := Option.some.inj H
               have hnb51 := NB277_279.out
               have hnc51 := NB279_277.out
               have hcz52_0 := bc BK277 0
               have hfz52_0 := blk_frozen BK277.out 0
               go_wp2_with (first | ((with_reducible refine gate_callee (f := 13) rfl ?_); refine goesL_ (some 74) rfl rfl Tryd.func13 (by kernel_rfl) rfl #[.agg #[.slice A0_0 l0_0.length c0_0], .int .i64 a3, .int .i64 a1, .int .i64 (wrap64 ((Go.bits .and .i64 a4 31) * 30))] rfl (by (try simp only [List.map_toArray, List.map_cons, List.map_nil]); first | done | rfl | (simp only [List.length_drop, List.length_take]; rfl)) ?_; (with_reducible refine (tariff_Afford.calls _ _ l0_0 a3 a1 (wrap64 ((Go.bits .and .i64 a4 31) * 30)) t288 t289 _ ?side1 ?side2 A42.out).mono ?_); (case side1 => repeat (first | exact (Kd.C_below HR0_0.out HB.out) | (with_reducible refine Kd.C_alloc ?_ _) | (with_reducible refine Kd.C_drewN ?_ _) | (with_reducible refine Kd.C_drew ?_))); (case side2 => exact HC0_0.out); rintro e w53 ⟨rfl, hb⟩; refine ⟨_, rfl, ?_⟩; have n0_ := Aside0.mk (Kd.R_below (rk HO_280002) hb); have n1_ := kl BK277 hb; have n2_ := kl BK279 hb; have n3_ := ls2 HB GE277 GE279 hb; clear HO_280002; clear BK277; clear BK279; clear HB; have HO_280002 := n0_; have BK277 := n1_; have BK279 := n2_; have HB := n3_; clear n0_ n1_ n2_ n3_; (try clear hb); (try clear hb2); (try clear hk); (try clear hi); have hcz54_0 := bc BK277 0; have hfz54_0 := blk_frozen BK277.out 0) | ((with_reducible refine gate_callee (f := 19) rfl ?_); refine goesL_ (some 81) rfl rfl Tryd.func19 (by kernel_rfl) rfl #[.agg #[.slice A0_0 l0_0.length c0_0], .int .i64 a3, .int .i64 x13_14] rfl (by (try simp only [List.map_toArray, List.map_cons, List.map_nil]); first | done | rfl | (simp only [List.length_drop, List.length_take]; rfl)) ?_; (with_reducible refine (tariff_Price.calls kj14 _ _ l0_0 a3 x13_14 t290 t291 _ ?side1 ?side2 A43.out).mono ?_); (case side1 => repeat (first | exact (Kd.C_below HR0_0.out HB.out) | (with_reducible refine Kd.C_alloc ?_ _) | (with_reducible refine Kd.C_drewN ?_ _) | (with_reducible refine Kd.C_drew ?_))); (case side2 => exact HC0_0.out); rintro e w55 ⟨rfl, hb⟩; refine ⟨_, rfl, ?_⟩; have n0_ := Aside0.mk (Kd.R_below (rk HO_280002) hb); have n1_ := kl BK277 hb; have n2_ := kl BK279 hb; have n3_ := ls2 HB GE277 GE279 hb; clear HO_280002; clear BK277; clear BK279; clear HB; have HO_280002 := n0_; have BK277 := n1_; have BK279 := n2_; have HB := n3_; clear n0_ n1_ n2_ n3_; (try clear hb); (try clear hb2); (try clear hk); (try clear hi); have hcz56_0 := bc BK279 0; have hcz56_1 := bc BK279 1; have hcz56_2 := bc BK279 2; have hfz56_0 := blk_frozen BK279.out 0; have hfz56_1 := blk_frozen BK279.out 1; have hfz56_2 := blk_frozen BK279.out 2; obtain ⟨Ao57, co57, eo57⟩ := Kd.R_slice HO_280002.out; subst eo57; have p292 : 0 ≤ (0 : Int) := (by omega); have q292 : 0 < (x280002_14.length : Int) := of_decide_eq_true (by first | (with_reducible assumption) | assumption); obtain ⟨ad292, e292, hx292_0, hx292_1, hx292_2⟩ := at_T54 (Kd.R_reads' HO_280002.out).2.2 0 p292 q292; cases e292; have qi292 : (0 < x280002_14.length) = True := eq_true (by omega); (try rw [show ((0 : Int)).toNat = 0 from rfl] at hx292_0); (try rw [show 0 * 3 = 0 from rfl] at hx292_0); (try rw [Addr.add_zero'] at hx292_0); (try rw [show ((0 : Int)).toNat = 0 from rfl] at hx292_1); (try rw [show 0 * 3 = 0 from rfl] at hx292_1); (try rw [Addr.add_zero'] at hx292_1); (try rw [show ((0 : Int)).toNat = 0 from rfl] at hx292_2); (try rw [show 0 * 3 = 0 from rfl] at hx292_2); (try rw [Addr.add_zero'] at hx292_2); replace p292 := eq_true p292; replace q292 := eq_true q292; have p293 : 0 ≤ (0 : Int) := (by omega); have q293 : 0 < (x280002_14.length : Int) := of_decide_eq_true (by first | (with_reducible assumption) | assumption); obtain ⟨ad293, e293, hx293_0, hx293_1, hx293_2⟩ := at_T54 (Kd.R_reads' HO_280002.out).2.2 0 p293 q293; obtain rfl : ad292 = ad293 := (by injection e293); have qi293 : (0 < x280002_14.length) = True := eq_true (by omega); (try rw [show ((0 : Int)).toNat = 0 from rfl] at hx293_0); (try rw [show 0 * 3 = 0 from rfl] at hx293_0); (try rw [Addr.add_zero'] at hx293_0); (try rw [show ((0 : Int)).toNat = 0 from rfl] at hx293_1); (try rw [show 0 * 3 = 0 from rfl] at hx293_1); (try rw [Addr.add_zero'] at hx293_1); (try rw [show ((0 : Int)).toNat = 0 from rfl] at hx293_2); (try rw [show 0 * 3 = 0 from rfl] at hx293_2); (try rw [Addr.add_zero'] at hx293_2); replace p293 := eq_true p293; replace q293 := eq_true q293))
               go_ret
               exact ⟨by first | rfl | (simp [errW_none, errW_some] <;> rfl) | (simp [*, errW_none, errW_some] <;> rfl), lb2 HB GE277 GE279⟩
              ·rw [if_neg c50] at H
               have c50b0 : (((rd_T54 x280002_14 0).f1) == t290) = false := beq_eq_false_iff_ne.mpr c50
               have c50b1 : (((rd_T54 x280002_14 0).f1) != t290) = true := bne_iff_ne.mpr c50
               exact absurd ((Option.some.inj H).trans HT_TRUE.out) (by simp)
             ·rw [if_neg c49] at H
              exact absurd H (by simp)
            ·rw [if_neg c48] at H
             have c48b0 : ((x280002_14.length : Int) == 1) = false := beq_eq_false_iff_ne.mpr c48
             have c48b1 : ((x280002_14.length : Int) != 1) = true := bne_iff_ne.mpr c48
             exact absurd ((Option.some.inj H).trans HT_TRUE.out) (by simp)
           ·rw [if_neg c47] at H
            have c47b0 : ((wrap64 (a1 - x280001_14)) == t290) = false := beq_eq_false_iff_ne.mpr c47
            have c47b1 : ((wrap64 (a1 - x280001_14)) != t290) = true := bne_iff_ne.mpr c47
            exact absurd ((Option.some.inj H).trans HT_TRUE.out) (by simp)
          ·rw [if_neg c46] at H
           have c46b0 : ((wrap64 (x13_14 - a3)) == t288) = false := beq_eq_false_iff_ne.mpr c46
           have c46b1 : ((wrap64 (x13_14 - a3)) != t288) = true := bne_iff_ne.mpr c46
           exact absurd ((Option.some.inj H).trans HT_TRUE.out) (by simp)
         ·rw [if_neg c45] at H
          have c45b0 : (t291 == 0) = false := beq_eq_false_iff_ne.mpr c45
          have c45b1 : (t291 != 0) = true := bne_iff_ne.mpr c45
          exact absurd ((Option.some.inj H).trans HT_TRUE.out) (by simp)
        ·rw [if_neg c44] at H
         have c44b0 : (t289 == 0) = false := beq_eq_false_iff_ne.mpr c44
         have c44b1 : (t289 != 0) = true := bne_iff_ne.mpr c44
         exact absurd ((Option.some.inj H).trans HT_TRUE.out) (by simp)
 ·replace c7 := Bool.eq_false_iff.mpr c7
  subst c7
  have H1 : (some false) = some r := by rw [if_neg (show ¬ (false = true) by decide)] at H; exact H
  clear H
  have H := H1
  clear H1
  exact absurd ((Option.some.inj H).trans HT_TRUE.out) (by simp)

end Go.Proofs.YtldpacphackdjaaDoor.Print
/- That the printed law PrepaidChunksAffordAll answers true at every tariff, balance, call, time and number of rounds. No condition that the law itself does not guard. -/
namespace Go.Proofs.YtldpacphackdjaaDoor.Print
open Go.RowKit Go.Proofs.YtldpacphackdjaaDoorW.PrintWords Go.Proofs.YtldpacphackdjaaDoorW.PrintLast Go.Proofs.YtldpacphackdjaaDoorW.PrintMore
set_option linter.unusedVariables false
set_option linter.unusedSimpArgs false
theorem and31 (n : Int) : Go.bits .and .i64 n 31 = n % 32 := by
  have h31 : (BitVec.ofInt 64 31).toNat = 2 ^ 5 - 1 := by decide
  have key : (BitVec.ofInt 64 n &&& BitVec.ofInt 64 31).toNat = (n % ((2 ^ 64 : Nat) : Int)).toNat % 2 ^ 5 := by
    rw [BitVec.toNat_and, BitVec.toNat_ofInt, h31, Nat.and_two_pow_sub_one_eq_mod]
  show IntKind.i64.wrap ((BitVec.ofInt 64 n &&& BitVec.ofInt 64 31).toNat : Nat) = n % 32
  rw [key, IntKind.wrap_i64]
  omega
/-- Where nothing more can be paid for, or all rounds are over, the law's last test holds. -/
theorem chunk_j3 {tl : List S70} (hg : good tl = true) (s : ByteArray) (b now u n ref : Int) (hb0 : 0 ≤ b) (hb1 : b ≤ 1099511627776) (h0 : 0 ≤ now) (h1 : now ≤ 1099511527776) (hn0 : 0 ≤ n) (hn1 : n ≤ 31) (hu : now ≤ u) (hall : (affN tl now b (30 * n).toNat : Int) = u - now) (k : Nat) (hk : 100 ≤ k) :
    crossbarlaw28_PrepaidChunksAffordAll.j3 k b now n u tl s (b - (totalP tl u - totalP tl now)) [⟨ref, totalP tl u - totalP tl now, u⟩] = some true := by
  obtain ⟨k, rfl⟩ : ∃ i, k = i + 1 := ⟨k - 1, by omega⟩
  have hle := affN_le tl now b (30 * n).toNat
  have hp := affN_pays hg now b h0 hb0 (30 * n).toNat
  have hm := totalP_mono hg now u h0 hu
  rw [show now + (affN tl now b (30 * n).toNat : Int) = u by omega] at hp
  simp only [crossbarlaw28_PrepaidChunksAffordAll.j3]
  by_cases he : u = now
  · rw [if_pos he]
  · rw [if_neg he, show wrap64 (n * 30) = 30 * n by unfold wrap64; omega, afford_ok hg now b (30 * n) h0 (by omega) hb0 (by omega) (by omega), Option.bind_some, price_ok hg now u h0 hu (by omega) k (by omega), Option.bind_some]
    simp only
    rw [if_pos trivial, if_pos trivial, hall, show wrap64 (u - now) = u - now by unfold wrap64; omega, if_pos rfl]
    rw [show wrap64 (b - (b - (totalP tl u - totalP tl now))) = totalP tl u - totalP tl now by unfold wrap64; omega, if_pos rfl]
    rw [if_pos (by simp), if_pos (by simp)]
    rw [show rd_T54 [(⟨ref, totalP tl u - totalP tl now, u⟩ : S54)] 0 = ⟨ref, totalP tl u - totalP tl now, u⟩ from rfl]
    simp
theorem one_hold (ref sp u now : Int) : foundH ref [⟨ref, sp, u⟩] = true ∧ placeH ref [⟨ref, sp, u⟩] = 0 ∧ stH ref now [⟨ref, sp, u⟩] = u ∧ unH ref now [⟨ref, sp, u⟩] = sp ∧ withH ref now [⟨ref, sp, u⟩] = [⟨ref, sp, u⟩] := by
  have hp : placeH ref [⟨ref, sp, u⟩] = 0 := by simp [placeH]
  have hf : foundH ref [⟨ref, sp, u⟩] = true := by unfold foundH; rw [hp]; simp [rd_T54]
  have ha := (at_found (now := now) hf)
  refine ⟨hf, hp, ?_, ?_, ha.1⟩
  · unfold stH; rw [ha.2, hp]; rfl
  · unfold unH; rw [ha.2, hp]; rfl
theorem put_one (b : Int) (tl : List S70) (ref sp u now : Int) : putH b [⟨ref, sp, u⟩] tl ref now = [⟨ref, sp + cost b [⟨ref, sp, u⟩] tl ref now, u + secs b [⟨ref, sp, u⟩] tl ref now⟩] := by
  obtain ⟨h1, h2, h3, h4, h5⟩ := one_hold ref sp u now
  unfold putH
  rw [h5, h2, h3, h4]
  rfl
theorem no_hold (ref now : Int) : foundH ref [] = false ∧ placeH ref [] = 0 ∧ stH ref now [] = now ∧ unH ref now [] = 0 ∧ withH ref now [] = [⟨ref, 0, now⟩] := by
  have hp : placeH ref [] = 0 := by simp [placeH]
  have hf : foundH ref [] = false := by unfold foundH; simp
  have ha := (at_new (now := now) hf)
  refine ⟨hf, hp, ?_, ?_, by rw [ha.1, hp]; rfl⟩
  · unfold stH; rw [ha.2]
  · unfold unH; rw [ha.2]
theorem put_none (b : Int) (tl : List S70) (ref now : Int) : putH b [] tl ref now = [⟨ref, 0 + cost b [] tl ref now, now + secs b [] tl ref now⟩] := by
  obtain ⟨h1, h2, h3, h4, h5⟩ := no_hold ref now
  unfold putH
  rw [h5, h2, h3, h4]
  rfl
theorem lim_thirty (u : Int) (h0 : 0 ≤ u) (h1 : u + 30 ≤ 1099511627776) : limOf u u = 30 := by
  unfold limOf mn mx
  split <;> split <;> omega
/-- Seconds in two stages. -/
theorem aff_stage {tl : List S70} (hg : good tl = true) (b now u : Int) (h0 : 0 ≤ now) (hb0 : 0 ≤ b) (hu : now ≤ u) (m j : Nat) (h1 : (affN tl now b m : Int) = u - now) (h2 : affN tl u (b - (totalP tl u - totalP tl now)) 30 = j) : affN tl now b (m + 30) = affN tl now b m + j := by
  have hle := affN_le tl now b m
  have hp := affN_pays hg now b h0 hb0 m
  rw [show now + (affN tl now b m : Int) = u by omega] at hp
  have hle2 := affN_le tl u (b - (totalP tl u - totalP tl now)) 30
  have hp2 := affN_pays hg u (b - (totalP tl u - totalP tl now)) (by omega) (by omega) 30
  have hmx := affN_max hg u (b - (totalP tl u - totalP tl now)) (by omega) 30
  have hm1 := affN_max hg now b h0 m
  rw [show now + (affN tl now b m : Int) = u by omega] at hm1
  rw [h2] at hle2 hp2 hmx
  refine affN_unique hg now b h0 hb0 (m + 30) (affN tl now b m + j) (by omega) ?_ ?_
  · rw [show now + ((affN tl now b m + j : Nat) : Int) = u + (j : Int) by omega]
    omega
  · intro hlt
    rw [show now + ((affN tl now b m + j : Nat) : Int) = u + (j : Int) by omega]
    by_cases hj : j < 30
    · have := hmx hj
      omega
    · have h3 := hm1 (by omega)
      have h4 := totalP_mono hg (u + 1) (u + (j : Int) + 1) (by omega) (by omega)
      omega
theorem chunk_j2 (k : Nat) (b ref now n u i v e : Int) (tl : List S70) (s : ByteArray) (bb : Int) (l : List S54) (s2 : ByteArray) (b2 : Int) (l2 : List S54) :
    crossbarlaw28_PrepaidChunksAffordAll.j2 (k + 1) b ref now n u i v e false tl s bb l s2 b2 l2 = if e = 0 then crossbarlaw28_PrepaidChunksAffordAll.l0 k b ref now n v (wrap64 (i + 1)) tl s2 b2 l2 else crossbarlaw28_PrepaidChunksAffordAll.j3 k b now n u tl s bb l := by
  simp only [crossbarlaw28_PrepaidChunksAffordAll.j2]
  rw [if_neg (by simp)]
theorem chunk_l0 {tl : List S70} (hg : good tl = true) (s : ByteArray) (b now n ref : Int) (hb0 : 0 ≤ b) (hb1 : b ≤ 1099511627776) (h0 : 0 ≤ now) (h1 : now ≤ 1099511527776) (hr : 1 ≤ ref ∧ ref ≤ 1099511627776) (hn0 : 0 ≤ n) (hn1 : n ≤ 31) :
    ∀ (d i k : Nat) (u : Int), (n - i).toNat = d → 2 * d + 200 ≤ k → 1 ≤ i → (i : Int) ≤ n → now ≤ u → (affN tl now b (30 * i) : Int) = u - now → Acc s (b - (totalP tl u - totalP tl now)) [⟨ref, totalP tl u - totalP tl now, u⟩] →
    crossbarlaw28_PrepaidChunksAffordAll.l0 k b ref now n u (i : Int) tl s (b - (totalP tl u - totalP tl now)) [⟨ref, totalP tl u - totalP tl now, u⟩] = some true := by
  intro d
  induction d with
  | zero =>
    intro i k u hd hk hi1 hin hu hall ha
    obtain ⟨k, rfl⟩ : ∃ i, k = i + 1 := ⟨k - 1, by omega⟩
    simp only [crossbarlaw28_PrepaidChunksAffordAll.l0]
    rw [if_neg (by omega)]
    exact chunk_j3 hg s b now u n ref hb0 hb1 h0 h1 hn0 hn1 hu (by rw [show (30 * n).toNat = 30 * i by omega]; exact hall) k (by omega)
  | succ d ih =>
    intro i k u hd hk hi1 hin hu hall ha
    obtain ⟨k, rfl⟩ : ∃ i, k = i + 2 := ⟨k - 2, by omega⟩
    have hle := affN_le tl now b (30 * i)
    obtain ⟨q1, q2, q3, q4, q5⟩ := one_hold ref (totalP tl u - totalP tl now) u u
    have hlim := lim_thirty u (by omega) (by omega)
    have hsec : secs (b - (totalP tl u - totalP tl now)) [⟨ref, totalP tl u - totalP tl now, u⟩] tl ref u = (affN tl u (b - (totalP tl u - totalP tl now)) 30 : Int) := by
      unfold secs lasts
      rw [q3, hlim]
      rfl
    simp only [crossbarlaw28_PrepaidChunksAffordAll.l0]
    rw [if_pos (by omega)]
    by_cases hok : ROk s (b - (totalP tl u - totalP tl now)) [⟨ref, totalP tl u - totalP tl now, u⟩] tl ref u
    · have ha2 := acc_reserve hok
      have hst := aff_stage hg b now u h0 hb0 hu (30 * i) _ hall rfl
      have hcost : cost (b - (totalP tl u - totalP tl now)) [⟨ref, totalP tl u - totalP tl now, u⟩] tl ref u = totalP tl (u + (affN tl u (b - (totalP tl u - totalP tl now)) 30 : Int)) - totalP tl u := by
        unfold cost
        rw [hsec, q3]
      rw [put_one, hsec, hcost] at ha2
      rw [reserve_ok hok, Option.bind_some]
      simp only
      rw [if_pos trivial, chunk_j2, if_pos rfl, put_one, hsec, hcost, q3, pw1 (by omega)]
      generalize affN tl u (b - (totalP tl u - totalP tl now)) 30 = j at *
      rw [show b - (totalP tl u - totalP tl now) - (totalP tl (u + (j : Int)) - totalP tl u) = b - (totalP tl (u + (j : Int)) - totalP tl now) by omega, show totalP tl u - totalP tl now + (totalP tl (u + (j : Int)) - totalP tl u) = totalP tl (u + (j : Int)) - totalP tl now by omega] at ha2 ⊢
      refine ih (i + 1) k (u + j) (by omega) (by omega) (by omega) (by omega) (by omega) ?_ ha2
      rw [show 30 * (i + 1) = 30 * i + 30 by omega, hst]
      omega
    · have hz : secs (b - (totalP tl u - totalP tl now)) [⟨ref, totalP tl u - totalP tl now, u⟩] tl ref u = 0 := by
        refine Classical.byContradiction fun hne => hok ⟨ha, hg, hr.1, hr.2, by omega, by omega, (fun h => by rw [q1] at h; cases h.1), hne, ?_⟩
        rw [q3]
        omega
      rw [reserve_credit ha hg hr ⟨by omega, by omega⟩ (fun h => by rw [q1] at h; cases h.1) (.inl hz), Option.bind_some]
      simp only
      rw [if_neg (by omega), if_pos (by omega), show ((280 : Int) != 280) = false from rfl, chunk_j2, if_neg (by omega)]
      refine chunk_j3 hg s b now u n ref hb0 hb1 h0 h1 hn0 hn1 hu ?_ k (by omega)
      rw [hsec] at hz
      have hp := affN_pays hg now b h0 hb0 (30 * i)
      rw [show now + (affN tl now b (30 * i) : Int) = u by omega] at hp
      have hmx := affN_max hg u (b - (totalP tl u - totalP tl now)) (by omega) 30 (by omega)
      rw [show affN tl u (b - (totalP tl u - totalP tl now)) 30 = 0 by omega] at hmx
      rw [affN_unique hg now b h0 hb0 (30 * n).toNat (affN tl now b (30 * i)) (by omega) (by rw [show now + (affN tl now b (30 * i) : Int) = u by omega]; exact hp) (fun _ => by
        rw [show now + (affN tl now b (30 * i) : Int) = u by omega]
        rw [show u + ((0 : Nat) : Int) + 1 = u + 1 by omega] at hmx
        omega)]
      exact hall
theorem chunk_start {tl : List S70} (s : ByteArray) (b now n ref : Int) (h1 : now ≤ 1099511527776) (hn0 : 0 ≤ n) (hn1 : n ≤ 31) (k : Nat) (hk : 400 ≤ k) : crossbarlaw28_PrepaidChunksAffordAll.l0 k b ref now n now 0 tl s b [] = some true := by
  obtain ⟨k, rfl⟩ : ∃ i, k = i + 3 := ⟨k - 3, by omega⟩
  have j3n : ∀ k s b2 l, crossbarlaw28_PrepaidChunksAffordAll.j3 (k + 1) b now n now tl s b2 l = some true := fun k s b2 l => by
    simp only [crossbarlaw28_PrepaidChunksAffordAll.j3]
    rw [if_pos trivial]
  simp only [crossbarlaw28_PrepaidChunksAffordAll.l0]
  by_cases hn : 0 < n
  · rw [if_pos hn]
    by_cases hok : ROk s b [] tl ref now
    · obtain ⟨q1, q2, q3, q4, q5⟩ := no_hold ref now
      have hlim := lim_thirty now hok.now1 (by omega)
      have hsec : secs b [] tl ref now = (affN tl now b 30 : Int) := by
        unfold secs lasts
        rw [q3, hlim]
        rfl
      have ha2 := acc_reserve hok
      have hb := hok.acc.bal
      have hcost : cost b [] tl ref now = totalP tl (now + (affN tl now b 30 : Int)) - totalP tl now := by
        unfold cost
        rw [hsec, q3]
      rw [put_none, hsec, hcost, show (0 : Int) + (totalP tl (now + (affN tl now b 30 : Int)) - totalP tl now) = totalP tl (now + (affN tl now b 30 : Int)) - totalP tl now by omega] at ha2
      rw [reserve_ok hok, Option.bind_some]
      simp only
      rw [if_pos trivial, chunk_j2, if_pos rfl, put_none, hsec, hcost, q3, show (0 : Int) + (totalP tl (now + (affN tl now b 30 : Int)) - totalP tl now) = totalP tl (now + (affN tl now b 30 : Int)) - totalP tl now by omega]
      have := chunk_l0 hok.hg s b now n ref hb.1 hb.2 hok.now1 h1 ⟨hok.ref1, hok.ref2⟩ hn0 hn1 (n - 1).toNat 1 (k + 1) (now + (affN tl now b 30 : Int)) rfl (by omega) (by omega) (by omega) (by omega) (by rw [show 30 * 1 = 30 from rfl]; omega) ha2
      rw [show wrap64 (0 + 1) = ((1 : Nat) : Int) by unfold wrap64; omega]
      exact this
    · obtain ⟨e, he, hne⟩ := reserve_err hok
      rw [he, Option.bind_some]
      simp only
      rw [if_neg hne, if_neg (by omega), chunk_j2, if_neg hne, j3n]
  · rw [if_neg hn, j3n]
theorem PrepaidChunksAffordAll_pure (tl : List S70) (b ref now rounds : Int) (hn1 : tl.length ≤ 9223372036854775807) (hw1 : ∀ x ∈ tl, Rng x.f0 ∧ Rng x.f1) (w0 : (Lit.int .i64 b).wf = true) (w1 : (Lit.int .i64 ref).wf = true) (w2 : (Lit.int .i64 now).wf = true) (w3 : (Lit.int .i64 rounds).wf = true) : ∃ k, crossbarlaw28_PrepaidChunksAffordAll.f k tl b ref now rounds = some true := by
  refine ⟨3000, ?_⟩
  unfold crossbarlaw28_PrepaidChunksAffordAll.f
  rw [sane28_is 3000 (by omega), Option.bind_some, if_pos rfl]
  have j0t : crossbarlaw28_PrepaidChunksAffordAll.j0 3000 b ref now rounds true tl = some true := by
    simp only [crossbarlaw28_PrepaidChunksAffordAll.j0]
    rw [if_pos trivial]
  by_cases h1 : (tl.length : Int) > 100
  · rw [if_pos h1, j0t]
  · rw [if_neg h1]
    by_cases h2 : now > 1099511527776
    · rw [decide_eq_true h2, j0t]
    · rw [decide_eq_false h2]
      simp only [crossbarlaw28_PrepaidChunksAffordAll.j0]
      rw [if_neg (by simp), and31]
      exact chunk_start _ b now (rounds % 32) ref (by omega) (by omega) (by omega) 2999 (by omega)
end Go.Proofs.YtldpacphackdjaaDoor.Print
