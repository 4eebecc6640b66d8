/- That the call of function 29 (prepaid_Check) answers what the Lean function of the same name answers, at every input at which that one answers. (Written by a program of the session, which drives the kit's printer.) -/
import Derived.Test.YtldpacphackdjaaDoorVaSq
import Derived.Test.YtldpacphackdjaaDoorVaHTrim
import Derived.Test.YtldpacphackdjaaDoorVaK0
import Derived.Test.YtldpacphackdjaaDoorVa2
namespace Go.Proofs.YtldpacphackdjaaDoor.Print
open Go.RowKit Go.Proofs.YtldpacphackdjaaDoorW.PrintWords Go.Proofs.YtldpacphackdjaaDoorW.PrintLast Go.Proofs.YtldpacphackdjaaDoorW.PrintMore
attribute [local go_sem] max2_int min2_int max_two min_two max_three min_three max_four min_four   -- for this text's walks alone
set_option linter.unusedVariables false
set_option linter.unusedSimpArgs false

/-! ### prepaid_Check: function 29 -/
mutual
def prepaid_Check.j0 : Nat → Bool → ByteArray → Int → List (S54) → Option (Int)
 | 0, _, _, _, _ => none
 | k + 1, x29, x118000, x118001, x118002 => if x29 = true then (some 1) else (prepaid_Check.l0 k x118002 (x118002.length : Int) 0 x118000 x118001 x118002)
def prepaid_Check.l0 : Nat → List (S54) → Int → Int → ByteArray → Int → List (S54) → Option (Int)
 | 0, _, _, _, _, _, _ => none
 | k + 1, x31, x32, x33, x118000, x118001, x118002 => if x33 < x32 then (if 0 ≤ x33 then (if x33 < (x31.length : Int) then ((prepaid_within.f ((rd_T54 x31 x33).f0) 1).bind fun t123 => (if t123 = true then (if x33 > 0 then (if 0 ≤ (wrap64 (x33 - 1)) then (if (wrap64 (x33 - 1)) < (x118002.length : Int) then (if ((rd_T54 x118002 (wrap64 (x33 - 1))).f0) ≥ ((rd_T54 x31 x33).f0) then (some 1) else ((prepaid_within.f ((rd_T54 x31 x33).f1) 0).bind fun t125 => (if t125 = true then ((prepaid_within.f ((rd_T54 x31 x33).f2) 0).bind fun t126 => (if t126 = true then (prepaid_Check.l0 k x31 x32 (wrap64 (x33 + 1)) x118000 x118001 x118002) else (some 1))) else (some 1)))) else (none)) else (none)) else ((prepaid_within.f ((rd_T54 x31 x33).f1) 0).bind fun t127 => (if t127 = true then ((prepaid_within.f ((rd_T54 x31 x33).f2) 0).bind fun t128 => (if t128 = true then (prepaid_Check.l0 k x31 x32 (wrap64 (x33 + 1)) x118000 x118001 x118002) else (some 1))) else (some 1)))) else (some 1))) else (none)) else (none)) else ((prepaid_Worth.f k x118000 x118001 x118002).bind fun t120 => (if t120 > 1099511627776 then (some 1) else (some 0)))
end
def prepaid_Check.f (k : Nat) (a0_0 : ByteArray) (a0_1 : Int) (l0_2 : List (S54)) : Option (Int) := if (l0_2.length : Int) > 1024 then (some 2) else (if a0_0.toList = ([] : List UInt8) then (prepaid_Check.j0 k true a0_0 a0_1 l0_2) else (if (a0_0.size : Int) > 15 then (prepaid_Check.j0 k true a0_0 a0_1 l0_2) else ((strings_Trim.f a0_0 (⟨#[48, 49, 50, 51, 52, 53, 54, 55, 56, 57]⟩ : ByteArray)).bind fun t118 => (if t118.toList = ([] : List UInt8) then ((prepaid_within.f a0_1 0).bind fun t119 => (prepaid_Check.j0 k (!t119) a0_0 a0_1 l0_2)) else (prepaid_Check.j0 k true a0_0 a0_1 l0_2)))))
def prepaid_Check.T8 : Bool × List (List Nat × List Nat) := (true, [([], []), ([0], [0]), ([1], [1]), ([2], [2]), ([3, 2], [3]), ([4], [4]), ([5, 4], [4, 5]), ([6, 4, 4], [4, 6]), ([7], [7]), ([8, 7], [7, 8]), ([7], [7]), ([10, 7], [7, 10]), ([9, 11, 7], [7, 9, 11]), ([12, 7], [7, 12]), ([13, 7], [7, 13]), ([7], [7]), ([15, 7], [7, 15]), ([14, 16, 7], [7, 14, 16]), ([7, 17, 4], [4, 7, 17]), ([4, 18], [4, 18]), ([19, 7], [19]), ([20], [20]), ([21, 20], [20, 21]), ([22, 20, 20], [20, 22]), ([23, 20], [20, 23]), ([20, 24], [20, 24]), ([25, 23], [25]), ([26], [26]), ([27, 26], [26, 27]), ([28, 26, 26], [26, 28]), ([29, 26], [26, 29]), ([26, 30], [26, 30])])
def prepaid_Check.B8 : List Nat := [0, 1, 3, 7, 15, 31, 63, 127, 255, 511, 255, 1279, 4095, 8191, 16383, 255, 33023, 131071, 262143, 524287, 1048575, 2097151, 4194303, 8388607, 16777215, 33554431, 67108863, 134217727, 268435455, 536870911, 1073741823, 2147483647]
theorem prepaid_Check.tab8 : rtab .any (opsOf Tryd.f29 8) = prepaid_Check.T8 := by kernel_rfl
theorem prepaid_Check.bits8 : waitsOk prepaid_Check.T8.2 prepaid_Check.B8 = true := by kernel_rfl
set_option maxHeartbeats 8000000 in
set_option maxRecDepth 100000 in
theorem prepaid_Check.calls (k : Nat) (a0_0 : ByteArray) (a0_1 : Int) (A0_2 : Option Addr) (c0_2 : Nat) (l0_2 : List (S54)) (r : Int) (w : World) (hr0_2 : Kd.C k54 w A0_2 l0_2.length l0_2) (hc0_2 : l0_2.length ≤ c0_2) (h : prepaid_Check.f k a0_0 a0_1 l0_2 = some r) :
  Calls Tryd.prog 29 #[.agg #[.string a0_0, .int .i64 a0_1, .slice A0_2 l0_2.length c0_2]] w fun e w' => e = .returned (.int .i64 r) ∧ Below w.heap.size w w' := by
 have hu31 := Tryd.underlying31
 have hu54 := Tryd.underlying54
 have HR0_2 := Aside0.mk hr0_2
 have HC0_2 := Aside0.mk hc0_2
 clear hr0_2 hc0_2
 have HB := Aside0.mk (Below.refl w.heap.size w)
 have H : (if (l0_2.length : Int) > 1024 then (some 2) else (if a0_0.toList = ([] : List UInt8) then (prepaid_Check.j0 k true a0_0 a0_1 l0_2) else (if (a0_0.size : Int) > 15 then (prepaid_Check.j0 k true a0_0 a0_1 l0_2) else ((strings_Trim.f a0_0 (⟨#[48, 49, 50, 51, 52, 53, 54, 55, 56, 57]⟩ : ByteArray)).bind fun t118 => (if t118.toList = ([] : List UInt8) then ((prepaid_within.f a0_1 0).bind fun t119 => (prepaid_Check.j0 k (!t119) a0_0 a0_1 l0_2)) else (prepaid_Check.j0 k true a0_0 a0_1 l0_2)))))) = some r := h
 clear h
 by_cases c2 : (l0_2.length : Int) > 1024
 ·rw [if_pos c2] at H
  have c2b0 : decide (1024 < (l0_2.length : Int)) = true := decide_eq_true c2
  have c2b1 : decide (1024 < l0_2.length) = true := decide_eq_true (by omega)
  clear c2
  obtain rfl := Option.some.inj H
  go_enter Tryd.func29, Tryd.ntmps29
  go_wp2_with (first | ((with_reducible refine gate_dst (N := 1) rfl ?_); (try (refine gate_guard (by rfl) ?_; dsimp only)); refine box_event ?hg (N := 1) ?hd (cs := #[.string a0_0, .int .i64 a0_1, .slice A0_2 l0_2.length c0_2]) (t := 31) ?hr ?_; (case hd => rfl); (case hg => rfl); (case hr => first | (go_simp; done) | (go_simp; rfl)); intro gb117 hg w3 hbox hb; have n0_ := ls0 HB hb; have n1_ := Aside0.mk (hbox); have n2_ := Aside0.mk ((by rw [hg]; exact (below_size (lb0 HB)) : w.heap.size ≤ gb117)); have n3_ := Aside0.mk ((by rw [hg]; exact (below_size (lb0 HB)) : w.heap.size ≤ gb117)); clear HB; have HB := n0_; have BK117 := n1_; have GW117 := n2_; have GE117 := n3_; clear n0_ n1_ n2_ n3_; clear hb hbox hg; have hcz4_0 := bc BK117 0; have hcz4_1 := bc BK117 1; have hcz4_2 := bc BK117 2; have hfz4_0 := blk_frozen BK117.out 0; have hfz4_1 := blk_frozen BK117.out 1; have hfz4_2 := blk_frozen BK117.out 2))
  go_ret
  exact ⟨by first | rfl | (simp [errW_none, errW_some] <;> rfl) | (simp [*, errW_none, errW_some] <;> rfl), lb1 HB GE117⟩
 ·rw [if_neg c2] at H
  have c2b0 : decide (1024 < (l0_2.length : Int)) = false := decide_eq_false c2
  have c2b1 : decide (1024 < l0_2.length) = false := decide_eq_false (by omega)
  clear c2
  have HC5 := Aside0.mk H
  clear H
  go_enter Tryd.func29, Tryd.ntmps29
  go_upto_region 3 with (first | ((with_reducible refine gate_dst (N := 1) rfl ?_); (try (refine gate_guard (by rfl) ?_; dsimp only)); refine box_event ?hg (N := 1) ?hd (cs := #[.string a0_0, .int .i64 a0_1, .slice A0_2 l0_2.length c0_2]) (t := 31) ?hr ?_; (case hd => rfl); (case hg => rfl); (case hr => first | (go_simp; done) | (go_simp; rfl)); intro gb117 hg w6 hbox hb; have n0_ := ls0 HB hb; have n1_ := Aside0.mk (hbox); have n2_ := Aside0.mk ((by rw [hg]; exact (below_size (lb0 HB)) : w.heap.size ≤ gb117)); have n3_ := Aside0.mk ((by rw [hg]; exact (below_size (lb0 HB)) : w.heap.size ≤ gb117)); clear HB; have HB := n0_; have BK117 := n1_; have GW117 := n2_; have GE117 := n3_; clear n0_ n1_ n2_ n3_; clear hb hbox hg; have hcz7_0 := bc BK117 0; have hcz7_1 := bc BK117 1; have hcz7_2 := bc BK117 2; have hfz7_0 := blk_frozen BK117.out 0; have hfz7_1 := blk_frozen BK117.out 1; have hfz7_2 := blk_frozen BK117.out 2))
  (try simp only [Act.put, List.setIfInBounds_toArray, List.set_cons_zero, List.set_cons_succ])
  go_cut [29] (fun v29 wc => ∃ (kq : Nat) (x29_4 : Bool), v29 = .bool x29_4 ∧ Aside0 (prepaid_Check.j0 kq x29_4 a0_0 a0_1 l0_2 = some r) ∧ Aside0 (kq ≤ k) ∧ Aside0 (wc.heap[gb117]? = some (.cells #[.string a0_0, .int .i64 a0_1, (.slice A0_2 l0_2.length c0_2)] 31 (0, 0))) ∧ Aside0 (Below w.heap.size w wc))
  case first =>
   have H := HC5.out
   clear HC5
   by_cases c8 : a0_0.toList = ([] : List UInt8)
   ·rw [if_pos c8] at H
    have c8b0 : (a0_0.toList == ([] : List UInt8)) = true := beq_iff_eq.mpr c8
    have c8b1 : (a0_0.toList != ([] : List UInt8)) = false := bne_eq_false_iff_eq.mpr c8
    clear c8
    (first | rw [c8b0] | (simp only [i64_w, i32_w]; rw [c8b0]) | skip)
    have H' := Aside0.mk H
    clear H
    have hcz9_0 := bc BK117 0
    have hcz9_1 := bc BK117 1
    have hcz9_2 := bc BK117 2
    have hfz9_0 := blk_frozen BK117.out 0
    have hfz9_1 := blk_frozen BK117.out 1
    have hfz9_2 := blk_frozen BK117.out 2
    go_wp2
    go_meet
    case rel => exact ⟨_, (true), (by first | rfl | (simp; done) | (simp [*]; done)), H', ⟨by first | omega | exact Nat.le_refl _⟩, ⟨kb BK117⟩, ⟨lb1 HB GE117⟩⟩
   ·rw [if_neg c8] at H
    have c8b0 : (a0_0.toList == ([] : List UInt8)) = false := beq_eq_false_iff_ne.mpr c8
    have c8b1 : (a0_0.toList != ([] : List UInt8)) = true := bne_iff_ne.mpr c8
    (first | rw [c8b0] | (simp only [i64_w, i32_w]; rw [c8b0]) | skip)
    by_cases c10 : (a0_0.size : Int) > 15
    ·rw [if_pos c10] at H
     have c10b0 : decide (15 < (a0_0.size : Int)) = true := decide_eq_true c10
     have c10b1 : decide (15 < a0_0.size) = true := decide_eq_true (by omega)
     clear c10
     have H' := Aside0.mk H
     clear H
     have hcz11_0 := bc BK117 0
     have hcz11_1 := bc BK117 1
     have hcz11_2 := bc BK117 2
     have hfz11_0 := blk_frozen BK117.out 0
     have hfz11_1 := blk_frozen BK117.out 1
     have hfz11_2 := blk_frozen BK117.out 2
     go_wp2
     go_meet
     case rel => exact ⟨_, (true), (by first | rfl | (simp; done) | (simp [*]; done)), H', ⟨by first | omega | exact Nat.le_refl _⟩, ⟨kb BK117⟩, ⟨lb1 HB GE117⟩⟩
    ·rw [if_neg c10] at H
     have c10b0 : decide (15 < (a0_0.size : Int)) = false := decide_eq_false c10
     have c10b1 : decide (15 < a0_0.size) = false := decide_eq_false (by omega)
     clear c10
     replace H := Option.bind_eq_some_iff.mp H
     obtain ⟨t118, A120, H⟩ := H
     replace H : (if t118.toList = ([] : List UInt8) then ((prepaid_within.f a0_1 0).bind fun t119 => (prepaid_Check.j0 k (!t119) a0_0 a0_1 l0_2)) else (prepaid_Check.j0 k true a0_0 a0_1 l0_2)) = some r := H
     have A12 := Aside0.mk A120
     clear A120
     by_cases c13 : t118.toList = ([] : List UInt8)
     ·rw [if_pos c13] at H
      have c13b0 : (t118.toList == ([] : List UInt8)) = true := beq_iff_eq.mpr c13
      have c13b1 : (t118.toList != ([] : List UInt8)) = false := bne_eq_false_iff_eq.mpr c13
      clear c13
      replace H := Option.bind_eq_some_iff.mp H
      obtain ⟨t119, A140, H⟩ := H
      replace H : (prepaid_Check.j0 k (!t119) a0_0 a0_1 l0_2) = some r := H
      have A14 := Aside0.mk A140
      clear A140
      have H' := Aside0.mk H
      clear H
      have hcz15_0 := bc BK117 0
      have hcz15_1 := bc BK117 1
      have hcz15_2 := bc BK117 2
      have hfz15_0 := blk_frozen BK117.out 0
      have hfz15_1 := blk_frozen BK117.out 1
      have hfz15_2 := blk_frozen BK117.out 2
      go_wp2_with (first | (go_at_call 61; (with_reducible refine (strings_Trim.calls a0_0 (⟨#[48, 49, 50, 51, 52, 53, 54, 55, 56, 57]⟩ : ByteArray) t118 _ A12.out).mono ?_); rintro e w16 ⟨rfl, hb⟩; have n0_ := kl BK117 hb; have n1_ := ls1 HB GE117 hb; clear BK117; clear HB; have BK117 := n0_; have HB := n1_; clear n0_ n1_; (try clear hb); (try clear hb2); (try clear hk); (try clear hi); have hcz17_0 := bc BK117 0; have hcz17_1 := bc BK117 1; have hcz17_2 := bc BK117 2; have hfz17_0 := blk_frozen BK117.out 0; have hfz17_1 := blk_frozen BK117.out 1; have hfz17_2 := blk_frozen BK117.out 2) | (go_at_call 38; (with_reducible refine (prepaid_within.calls a0_1 0 t119 _ A14.out).mono ?_); rintro e w' ⟨rfl, ⟨nd, rfl⟩⟩))
      go_meet
      case rel => exact ⟨_, (!t119), (by first | rfl | (simp; done) | (simp [*]; done)), H', ⟨by first | omega | exact Nat.le_refl _⟩, ⟨kb BK117⟩, ⟨lb1 HB GE117⟩⟩
     ·rw [if_neg c13] at H
      have c13b0 : (t118.toList == ([] : List UInt8)) = false := beq_eq_false_iff_ne.mpr c13
      have c13b1 : (t118.toList != ([] : List UInt8)) = true := bne_iff_ne.mpr c13
      have H' := Aside0.mk H
      clear H
      have hcz18_0 := bc BK117 0
      have hcz18_1 := bc BK117 1
      have hcz18_2 := bc BK117 2
      have hfz18_0 := blk_frozen BK117.out 0
      have hfz18_1 := blk_frozen BK117.out 1
      have hfz18_2 := blk_frozen BK117.out 2
      go_wp2_with (first | (go_at_call 61; (with_reducible refine (strings_Trim.calls a0_0 (⟨#[48, 49, 50, 51, 52, 53, 54, 55, 56, 57]⟩ : ByteArray) t118 _ A12.out).mono ?_); rintro e w19 ⟨rfl, hb⟩; have n0_ := kl BK117 hb; have n1_ := ls1 HB GE117 hb; clear BK117; clear HB; have BK117 := n0_; have HB := n1_; clear n0_ n1_; (try clear hb); (try clear hb2); (try clear hk); (try clear hi)))
      go_meet
      case rel => exact ⟨_, (true), (by first | rfl | (simp; done) | (simp [*]; done)), H', ⟨by first | omega | exact Nat.le_refl _⟩, ⟨kb BK117⟩, ⟨lb1 HB GE117⟩⟩
  case rest =>
   clear HC5
   try clear c1; try clear c2; try clear c2b0; try clear c2b1; try clear p2; try clear c8; try clear c8b0; try clear c8b1; try clear c10; try clear c10b0; try clear c10b1; try clear c13; try clear c13b0; try clear c13b1; try clear hcz11_0; try clear hcz11_1; try clear hcz11_2; try clear hcz15_0; try clear hcz15_1; try clear hcz15_2; try clear hcz17_0; try clear hcz17_1; try clear hcz17_2; try clear hcz18_0; try clear hcz18_1; try clear hcz18_2; try clear hcz4_0; try clear hcz4_1; try clear hcz4_2; try clear hcz7_0; try clear hcz7_1; try clear hcz7_2; try clear hcz9_0; try clear hcz9_1; try clear hcz9_2; try clear hfz11_0; try clear hfz11_1; try clear hfz11_2; try clear hfz15_0; try clear hfz15_1; try clear hfz15_2; try clear hfz17_0; try clear hfz17_1; try clear hfz17_2; try clear hfz18_0; try clear hfz18_1; try clear hfz18_2; try clear hfz4_0; try clear hfz4_1; try clear hfz4_2; try clear hfz7_0; try clear hfz7_1; try clear hfz7_2; try clear hfz9_0; try clear hfz9_1; try clear hfz9_2
   obtain ⟨kq, x29_4, rfl, HA, HJ4, BK117, HB⟩ := hcut
   cases kq with
   | zero => exact absurd HA.out (by simp [prepaid_Check.j0])
   | succ kj4 =>
    have H := HA.out
    clear HA
    simp only [prepaid_Check.j0] at H
    by_cases c20 : x29_4 = true
    ·subst c20
     have H1 : (some 1) = some r := by rw [if_pos rfl] at H; exact H
     clear H
     have H := H1
     clear H1
     obtain rfl := Option.some.inj H
     go_wp2
     go_ret
     exact ⟨by first | rfl | (simp [errW_none, errW_some] <;> rfl) | (simp [*, errW_none, errW_some] <;> rfl), lb1 HB GE117⟩
    ·replace c20 := Bool.eq_false_iff.mpr c20
     subst c20
     have H1 : (prepaid_Check.l0 kj4 l0_2 (l0_2.length : Int) 0 a0_0 a0_1 l0_2) = some r := by rw [if_neg (show ¬ (false = true) by decide)] at H; exact H
     clear H
     have H := H1
     clear H1
     have H' := Aside0.mk H
     clear H
     have hcz21_0 := bc BK117 0
     have hcz21_1 := bc BK117 1
     have hcz21_2 := bc BK117 2
     have hfz21_0 := blk_frozen BK117.out 0
     have hfz21_1 := blk_frozen BK117.out 1
     have hfz21_2 := blk_frozen BK117.out 2
     go_wp2
     go_loopg [33] kj4 (fun kq v33 w' => ∃ (x33_2 : Int), v33 = .int .i64 x33_2 ∧ Aside0 (prepaid_Check.l0 kq l0_2 (l0_2.length : Int) x33_2 a0_0 a0_1 l0_2 = some r) ∧ Aside0 (kq ≤ kj4) ∧ Aside0 (w'.heap[gb117]? = some (.cells #[.string a0_0, .int .i64 a0_1, (.slice A0_2 l0_2.length c0_2)] 31 (0, 0))) ∧ Aside0 (Below w.heap.size w w'))
     case atStart => exact ⟨(0), (by first | rfl | (simp; done) | (simp [*]; done)), H', ⟨Nat.le_refl _⟩, ⟨kb BK117⟩, ⟨lb1 HB GE117⟩⟩
     case round =>
      clear H'
      try clear c1; try clear c2; try clear c2b0; try clear c2b1; try clear p2; try clear c8; try clear c8b0; try clear c8b1; try clear c10; try clear c10b0; try clear c10b1; try clear c13; try clear c13b0; try clear c13b1; try clear c20; try clear hcz11_0; try clear hcz11_1; try clear hcz11_2; try clear hcz15_0; try clear hcz15_1; try clear hcz15_2; try clear hcz17_0; try clear hcz17_1; try clear hcz17_2; try clear hcz18_0; try clear hcz18_1; try clear hcz18_2; try clear hcz21_0; try clear hcz21_1; try clear hcz21_2; try clear hcz4_0; try clear hcz4_1; try clear hcz4_2; try clear hcz7_0; try clear hcz7_1; try clear hcz7_2; try clear hcz9_0; try clear hcz9_1; try clear hcz9_2; try clear hfz11_0; try clear hfz11_1; try clear hfz11_2; try clear hfz15_0; try clear hfz15_1; try clear hfz15_2; try clear hfz17_0; try clear hfz17_1; try clear hfz17_2; try clear hfz18_0; try clear hfz18_1; try clear hfz18_2; try clear hfz21_0; try clear hfz21_1; try clear hfz21_2; try clear hfz4_0; try clear hfz4_1; try clear hfz4_2; try clear hfz7_0; try clear hfz7_1; try clear hfz7_2; try clear hfz9_0; try clear hfz9_1; try clear hfz9_2; try clear p2
      obtain ⟨x33_2, rfl, HA, HK2, BK117, HB⟩ := hrel
      cases gk with
      | zero => exact absurd HA.out (by simp [prepaid_Check.l0])
      | succ k2 =>
       have H := HA.out
       clear HA
       simp only [prepaid_Check.l0] at H
       by_cases c22 : x33_2 < (l0_2.length : Int)
       ·rw [if_pos c22] at H
        have c22b0 : decide (x33_2 < (l0_2.length : Int)) = true := decide_eq_true c22
        clear c22
        by_cases c23 : 0 ≤ x33_2
        ·rw [if_pos c23] at H
         have c23b0 : decide (0 ≤ x33_2) = true := decide_eq_true c23
         clear c23
         by_cases c24 : x33_2 < (l0_2.length : Int)
         ·rw [if_pos c24] at H
          have c24b0 : decide (x33_2 < (l0_2.length : Int)) = true := decide_eq_true c24
          clear c24
          replace H := Option.bind_eq_some_iff.mp H
          obtain ⟨t123, A250, H⟩ := H
          replace H : (if t123 = true then (if x33_2 > 0 then (if 0 ≤ (wrap64 (x33_2 - 1)) then (if (wrap64 (x33_2 - 1)) < (l0_2.length : Int) then (if ((rd_T54 l0_2 (wrap64 (x33_2 - 1))).f0) ≥ ((rd_T54 l0_2 x33_2).f0) then (some 1) else ((prepaid_within.f ((rd_T54 l0_2 x33_2).f1) 0).bind fun t125 => (if t125 = true then ((prepaid_within.f ((rd_T54 l0_2 x33_2).f2) 0).bind fun t126 => (if t126 = true then (prepaid_Check.l0 k2 l0_2 (l0_2.length : Int) (wrap64 (x33_2 + 1)) a0_0 a0_1 l0_2) else (some 1))) else (some 1)))) else (none)) else (none)) else ((prepaid_within.f ((rd_T54 l0_2 x33_2).f1) 0).bind fun t127 => (if t127 = true then ((prepaid_within.f ((rd_T54 l0_2 x33_2).f2) 0).bind fun t128 => (if t128 = true then (prepaid_Check.l0 k2 l0_2 (l0_2.length : Int) (wrap64 (x33_2 + 1)) a0_0 a0_1 l0_2) else (some 1))) else (some 1)))) else (some 1)) = some r := H
          have A25 := Aside0.mk A250
          clear A250
          by_cases c26 : t123 = true
          ·subst c26
           have H1 : (if x33_2 > 0 then (if 0 ≤ (wrap64 (x33_2 - 1)) then (if (wrap64 (x33_2 - 1)) < (l0_2.length : Int) then (if ((rd_T54 l0_2 (wrap64 (x33_2 - 1))).f0) ≥ ((rd_T54 l0_2 x33_2).f0) then (some 1) else ((prepaid_within.f ((rd_T54 l0_2 x33_2).f1) 0).bind fun t125 => (if t125 = true then ((prepaid_within.f ((rd_T54 l0_2 x33_2).f2) 0).bind fun t126 => (if t126 = true then (prepaid_Check.l0 k2 l0_2 (l0_2.length : Int) (wrap64 (x33_2 + 1)) a0_0 a0_1 l0_2) else (some 1))) else (some 1)))) else (none)) else (none)) else ((prepaid_within.f ((rd_T54 l0_2 x33_2).f1) 0).bind fun t127 => (if t127 = true then ((prepaid_within.f ((rd_T54 l0_2 x33_2).f2) 0).bind fun t128 => (if t128 = true then (prepaid_Check.l0 k2 l0_2 (l0_2.length : Int) (wrap64 (x33_2 + 1)) a0_0 a0_1 l0_2) else (some 1))) else (some 1)))) = some r := by rw [if_pos rfl] at H; exact H
           clear H
           have H := H1
           clear H1
           by_cases c27 : x33_2 > 0
           ·rw [if_pos c27] at H
            have c27b0 : decide (0 < x33_2) = true := decide_eq_true c27
            clear c27
            obtain ⟨ji28, hji28⟩ : ∃ j_ : Int, (wrap64 (x33_2 - 1)) = j_ := ⟨_, rfl⟩
            replace H : (if 0 ≤ (ji28) then (if (ji28) < (l0_2.length : Int) then (if ((rd_T54 l0_2 (ji28)).f0) ≥ ((rd_T54 l0_2 x33_2).f0) then (some 1) else ((prepaid_within.f ((rd_T54 l0_2 x33_2).f1) 0).bind fun t125 => (if t125 = true then ((prepaid_within.f ((rd_T54 l0_2 x33_2).f2) 0).bind fun t126 => (if t126 = true then (prepaid_Check.l0 k2 l0_2 (l0_2.length : Int) (wrap64 (x33_2 + 1)) a0_0 a0_1 l0_2) else (some 1))) else (some 1)))) else (none)) else (none)) = some r := by first | (rw [hji28] at H; exact H) | (simp only [hji28] at H ⊢; exact H)
            (try rw [hji28] at A25)
            have hji28w : (IntKind.i64.wrap (x33_2 - 1)) = ji28 := (i64_w _).trans hji28
            by_cases c29 : 0 ≤ (ji28)
            ·rw [if_pos c29] at H
             have c29b0 : decide (0 ≤ (ji28)) = true := decide_eq_true c29
             clear c29
             by_cases c30 : (ji28) < (l0_2.length : Int)
             ·rw [if_pos c30] at H
              have c30b0 : decide ((ji28) < (l0_2.length : Int)) = true := decide_eq_true c30
              clear c30
              by_cases c31 : ((rd_T54 l0_2 (ji28)).f0) ≥ ((rd_T54 l0_2 x33_2).f0)
              ·rw [if_pos c31] at H
               have c31b0 : decide (((rd_T54 l0_2 x33_2).f0) ≤ ((rd_T54 l0_2 (ji28)).f0)) = true := decide_eq_true c31
               clear c31
               obtain rfl := Option.some.inj H
               have p121 : 0 ≤ (x33_2 : Int) := of_decide_eq_true (by first | (with_reducible assumption) | assumption)
               have q121 : x33_2 < (l0_2.length : Int) := of_decide_eq_true (by first | (with_reducible assumption) | assumption)
               obtain ⟨ad121, e121, hx121_0, hx121_1, hx121_2⟩ := at_T54 HR0_2.out x33_2 p121 q121
               cases e121
               replace hx121_0 := (HB.out.cell (World.block_lt_of_cell? w _ hx121_0)).trans hx121_0
               replace hx121_1 := (HB.out.cell (World.block_lt_of_cell? w _ hx121_1)).trans hx121_1
               replace hx121_2 := (HB.out.cell (World.block_lt_of_cell? w _ hx121_2)).trans hx121_2
               replace p121 := eq_true p121
               replace q121 := eq_true q121
               try go_wp2_with (first | ((with_reducible refine gate_dst (N := 4) rfl ?_); (try (refine gate_guard (by rfl) ?_; dsimp only)); refine box_event ?hg (N := 4) ?hd (cs := #[.int .i64 0, .int .i64 0, .int .i64 0]) (t := 54) ?hr ?_; (case hd => rfl); (case hg => rfl); (case hr => first | (go_simp; done) | (go_simp; rfl)); intro gb122 hg w32 hbox hb; have n0_ := kl BK117 hb; have n1_ := ls1 HB GE117 hb; have n2_ := Aside0.mk (hbox); have n3_ := Aside0.mk ((by rw [hg]; exact (below_size (lb1 HB GE117)) : w.heap.size ≤ gb122)); have n4_ := Aside0.mk ((by rw [hg]; exact (below_size (lb1 HB GE117)) : w.heap.size ≤ gb122)); have n5_ := kn BK117 hg; have n6_ := km BK117 hg; clear BK117; clear HB; have BK117 := n0_; have HB := n1_; have BK122 := n2_; have GW122 := n3_; have GE122 := n4_; have NB117_122 := n5_; have NB122_117 := n6_; clear n0_ n1_ n2_ n3_ n4_ n5_ n6_; clear hb hbox hg; have hnb33 := NB122_117.out; have hnc33 := NB117_122.out; have hcz34_0 := bc BK122 0; have hcz34_1 := bc BK122 1; have hcz34_2 := bc BK122 2; have hfz34_0 := blk_frozen BK122.out 0; have hfz34_1 := blk_frozen BK122.out 1; have hfz34_2 := blk_frozen BK122.out 2))
               have n0_ : Aside0 ((((w32.setCell ⟨gb122, 0, none⟩ (.int .i64 ((rd_T54 l0_2 x33_2).f0))).setCell ⟨gb122, 1, none⟩ (.int .i64 ((rd_T54 l0_2 x33_2).f1))).setCell ⟨gb122, 2, none⟩ (.int .i64 ((rd_T54 l0_2 x33_2).f2))).heap[gb117]? = some (.cells #[.string a0_0, .int .i64 a0_1, .slice (some ad121) l0_2.length c0_2] 31 (0, 0))) := ⟨kf1 BK117 NB117_122⟩
               have n1_ : Aside0 ((((w32.setCell ⟨gb122, 0, none⟩ (.int .i64 ((rd_T54 l0_2 x33_2).f0))).setCell ⟨gb122, 1, none⟩ (.int .i64 ((rd_T54 l0_2 x33_2).f1))).setCell ⟨gb122, 2, none⟩ (.int .i64 ((rd_T54 l0_2 x33_2).f2))).heap[gb122]? = some (.cells #[.int .i64 ((rd_T54 l0_2 x33_2).f0), .int .i64 ((rd_T54 l0_2 x33_2).f1), .int .i64 ((rd_T54 l0_2 x33_2).f2)] 54 (0, 0))) := ⟨by (with_reducible repeat (first | refine blk_drewN ?_ _ | refine blk_drew ?_ | refine blk_alloc ?_ _)); refine blk_put (cs := #[.int .i64 ((rd_T54 l0_2 x33_2).f0), .int .i64 ((rd_T54 l0_2 x33_2).f1), .int .i64 0]) ?_ 2 _ rfl; (with_reducible repeat (first | refine blk_drewN ?_ _ | refine blk_drew ?_ | refine blk_alloc ?_ _)); refine blk_put (cs := #[.int .i64 ((rd_T54 l0_2 x33_2).f0), .int .i64 0, .int .i64 0]) ?_ 1 _ rfl; (with_reducible repeat (first | refine blk_drewN ?_ _ | refine blk_drew ?_ | refine blk_alloc ?_ _)); refine blk_put (cs := #[.int .i64 0, .int .i64 0, .int .i64 0]) ?_ 0 _ rfl; (with_reducible repeat (first | refine blk_drewN ?_ _ | refine blk_drew ?_ | refine blk_alloc ?_ _)); exact BK122.out⟩
               have n2_ : Aside0 (Below w.heap.size w (((w32.setCell ⟨gb122, 0, none⟩ (.int .i64 ((rd_T54 l0_2 x33_2).f0))).setCell ⟨gb122, 1, none⟩ (.int .i64 ((rd_T54 l0_2 x33_2).f1))).setCell ⟨gb122, 2, none⟩ (.int .i64 ((rd_T54 l0_2 x33_2).f2)))) := ⟨lb2 HB GE117 GE122⟩
               (try clear BK117)
               (try clear BK122)
               (try clear HB)
               generalize (((w32.setCell ⟨gb122, 0, none⟩ (.int .i64 ((rd_T54 l0_2 x33_2).f0))).setCell ⟨gb122, 1, none⟩ (.int .i64 ((rd_T54 l0_2 x33_2).f1))).setCell ⟨gb122, 2, none⟩ (.int .i64 ((rd_T54 l0_2 x33_2).f2))) = w35 at n0_ n1_ n2_ ⊢
               have BK117 := n0_
               have BK122 := n1_
               have HB := n2_
               clear n0_ n1_ n2_
               have n0_ := Aside0.mk (blk_drew BK117.out)
               have n1_ := Aside0.mk (blk_drew BK122.out)
               have n2_ := Aside0.mk (below_drew1 HB.out)
               clear BK117
               clear BK122
               clear HB
               have BK117 := n0_
               have BK122 := n1_
               have HB := n2_
               clear n0_ n1_ n2_
               have p124 : 0 ≤ ((ji28) : Int) := of_decide_eq_true (by first | (with_reducible assumption) | assumption)
               have q124 : (ji28) < (l0_2.length : Int) := of_decide_eq_true (by first | (with_reducible assumption) | assumption)
               obtain ⟨ad124, e124, hx124_0, hx124_1, hx124_2⟩ := at_T54 HR0_2.out (ji28) p124 q124
               have hw124_2 := hx124_2
               have hw124_1 := hx124_1
               have hw124_0 := hx124_0
               obtain rfl : ad121 = ad124 := (by injection e124)
               replace hx124_0 := (HB.out.cell (World.block_lt_of_cell? w _ hx124_0)).trans hx124_0
               replace hx124_1 := (HB.out.cell (World.block_lt_of_cell? w _ hx124_1)).trans hx124_1
               replace hx124_2 := (HB.out.cell (World.block_lt_of_cell? w _ hx124_2)).trans hx124_2
               replace p124 := eq_true p124
               replace q124 := eq_true q124
               refine start_ (n := 32) (S := fun w' => w'.cell? ⟨gb122, 0, none⟩ = some (.int .i64 ((rd_T54 l0_2 x33_2).f0)) ∧ w'.cell? ⟨gb122, 1, none⟩ = some (.int .i64 ((rd_T54 l0_2 x33_2).f1)) ∧ w'.cell? ⟨gb122, 2, none⟩ = some (.int .i64 ((rd_T54 l0_2 x33_2).f2)) ∧ w'.cell? ⟨gb117, 0, none⟩ = some (.string a0_0) ∧ w'.cell? ⟨gb117, 1, none⟩ = some (.int .i64 a0_1) ∧ w'.cell? ⟨gb117, 2, none⟩ = some (.slice (some ad121) l0_2.length c0_2) ∧ w'.cell? (ad121.add (((ji28)).toNat * 3)) = some (.int .i64 ((rd_T54 l0_2 (ji28)).f0)) ∧ w'.cell? ⟨(ad121.add (((ji28)).toNat * 3)).block, (ad121.add (((ji28)).toNat * 3)).off + 1, none⟩ = some (.int .i64 ((rd_T54 l0_2 (ji28)).f1)) ∧ w'.cell? ⟨(ad121.add (((ji28)).toNat * 3)).block, (ad121.add (((ji28)).toNat * 3)).off + 2, none⟩ = some (.int .i64 ((rd_T54 l0_2 (ji28)).f2))) (ds := []) #[false, false, false, false, false, false, false, false, false, false, false, false, false, false, false, false, false, false, false, false, false, false, false, false, false, false, false, false, false, false, false, false] (by kernel_rfl) rfl rfl ⟨(blk_cell BK122.out 0).trans rfl, (blk_cell BK122.out 1).trans rfl, (blk_cell BK122.out 2).trans rfl, (blk_cell BK117.out 0).trans rfl, (blk_cell BK117.out 1).trans rfl, (blk_cell BK117.out 2).trans rfl, ((HB.out.cell (World.block_lt_of_cell? w _ hw124_0)).trans hw124_0), ((HB.out.cell (World.block_lt_of_cell? w _ hw124_1)).trans hw124_1), ((HB.out.cell (World.block_lt_of_cell? w _ hw124_2)).trans hw124_2)⟩ (fun hHeld => ?_); refine with_tabW prepaid_Check.tab8 prepaid_Check.bits8 (fun HT_ HW_ => ?_)
               generalize w35.drew = w36 at BK117 BK122 HB hx124_0 hx124_1 hx124_2 hHeld ⊢
               refine p_ 0 38 HT_ ?_
               refine t_ 1 39 HT_ HW_ rfl rfl hHeld (by rintro w' ⟨s0, s1, s2, s3, s4, s5, s6, s7, s8⟩; go_simp; with_reducible rfl) ?_
               refine o_ 2 40 HT_ (fun K hK => ?_)
               refine goes_ Tryd.func38 (by kernel_rfl) rfl #[.int .i64 ((rd_T54 l0_2 x33_2).f0), .int .i64 1] (by rfl) rfl rfl (by (try simp only [List.map_toArray, List.map_cons, List.map_nil]); first | done | rfl | (simp only [List.length_drop, List.length_take]; rfl)) ?_
               with_reducible refine (prepaid_within.calls ((rd_T54 l0_2 x33_2).f0) 1 true _ A25.out).mono ?_
               rintro e w' ⟨rfl, ⟨nd, rfl⟩⟩
               refine ⟨_, rfl, ?_⟩
               refine hK.out _ _ ⟨(blk_cell BK122.out 0).trans rfl, (blk_cell BK122.out 1).trans rfl, (blk_cell BK122.out 2).trans rfl, (blk_cell BK117.out 0).trans rfl, (blk_cell BK117.out 1).trans rfl, (blk_cell BK117.out 2).trans rfl, ((HB.out.cell (World.block_lt_of_cell? w _ hw124_0)).trans hw124_0), ((HB.out.cell (World.block_lt_of_cell? w _ hw124_1)).trans hw124_1), ((HB.out.cell (World.block_lt_of_cell? w _ hw124_2)).trans hw124_2)⟩ (fun hHeld => ?_)
               clear hK K
               refine n_ 40 ?_
               refine p_ 3 41 HT_ ?_
               refine p_ 4 42 HT_ ?_
               refine p_ 5 43 HT_ ?_
               refine p_ 6 44 HT_ ?_
               refine p_ 7 45 HT_ ?_
               refine p_ 8 46 HT_ ?_
               refine p_ 10 48 HT_ ?_
               refine p_ 11 49 HT_ ?_
               refine p_ 15 53 HT_ ?_
               refine t_ 9 47 HT_ HW_ rfl rfl hHeld (by rintro w' ⟨s0, s1, s2, s3, s4, s5, s6, s7, s8⟩; go_simp; with_reducible rfl) ?_
               refine p_ 12 50 HT_ ?_
               refine p_ 13 51 HT_ ?_
               refine t_ 14 52 HT_ HW_ rfl rfl hHeld (by rintro w' ⟨s0, s1, s2, s3, s4, s5, s6, s7, s8⟩; go_simp; with_reducible rfl) ?_
               refine t_ 16 54 HT_ HW_ rfl rfl hHeld (by rintro w' ⟨s0, s1, s2, s3, s4, s5, s6, s7, s8⟩; go_simp; with_reducible rfl) ?_
               refine p_ 17 55 HT_ ?_
               refine p_ 18 56 HT_ ?_
               refine p_ 19 57 HT_ ?_
               refine p_ 20 58 HT_ ?_
               refine q_ 21 59 HT_ ?_
               refine q_ 22 60 HT_ ?_
               refine q_ 23 61 HT_ ?_
               refine q_ 24 62 HT_ ?_
               refine p_ 25 63 HT_ ?_
               refine p_ 26 64 HT_ ?_
               refine q_ 27 65 HT_ ?_
               refine q_ 28 66 HT_ ?_
               refine q_ 29 67 HT_ ?_
               refine q_ 30 68 HT_ ?_
               refine p_ 31 69 HT_ ?_
               refine done_ (done_of HT_.out (by kernel_rfl)) ?_
               try go_wp2
               go_ret
               exact ⟨by first | rfl | (simp [errW_none, errW_some] <;> rfl) | (simp only [← hji28]; first | rfl | (simp [errW_none, errW_some] <;> rfl)) | (simp [*, errW_none, errW_some] <;> rfl), lb2 HB GE117 GE122⟩
              ·rw [if_neg c31] at H
               have c31b0 : decide (((rd_T54 l0_2 x33_2).f0) ≤ ((rd_T54 l0_2 (ji28)).f0)) = false := decide_eq_false c31
               clear c31
               replace H := Option.bind_eq_some_iff.mp H
               obtain ⟨t125, A370, H⟩ := H
               replace H : (if t125 = true then ((prepaid_within.f ((rd_T54 l0_2 x33_2).f2) 0).bind fun t126 => (if t126 = true then (prepaid_Check.l0 k2 l0_2 (l0_2.length : Int) (wrap64 (x33_2 + 1)) a0_0 a0_1 l0_2) else (some 1))) else (some 1)) = some r := H
               have A37 := Aside0.mk A370
               clear A370
               by_cases c38 : t125 = true
               ·subst c38
                have H1 : ((prepaid_within.f ((rd_T54 l0_2 x33_2).f2) 0).bind fun t126 => (if t126 = true then (prepaid_Check.l0 k2 l0_2 (l0_2.length : Int) (wrap64 (x33_2 + 1)) a0_0 a0_1 l0_2) else (some 1))) = some r := by rw [if_pos rfl] at H; exact H
                clear H
                have H := H1
                clear H1
                replace H := Option.bind_eq_some_iff.mp H
                obtain ⟨t126, A390, H⟩ := H
                replace H : (if t126 = true then (prepaid_Check.l0 k2 l0_2 (l0_2.length : Int) (wrap64 (x33_2 + 1)) a0_0 a0_1 l0_2) else (some 1)) = some r := H
                have A39 := Aside0.mk A390
                clear A390
                by_cases c40 : t126 = true
                ·subst c40
                 have H1 : (prepaid_Check.l0 k2 l0_2 (l0_2.length : Int) (wrap64 (x33_2 + 1)) a0_0 a0_1 l0_2) = some r := by rw [if_pos rfl] at H; exact H
                 clear H
                 have H := H1
                 clear H1
                 have H' := Aside0.mk H
                 clear H
                 have p121 : 0 ≤ (x33_2 : Int) := of_decide_eq_true (by first | (with_reducible assumption) | assumption)
                 have q121 : x33_2 < (l0_2.length : Int) := of_decide_eq_true (by first | (with_reducible assumption) | assumption)
                 obtain ⟨ad121, e121, hx121_0, hx121_1, hx121_2⟩ := at_T54 HR0_2.out x33_2 p121 q121
                 cases e121
                 replace hx121_0 := (HB.out.cell (World.block_lt_of_cell? w _ hx121_0)).trans hx121_0
                 replace hx121_1 := (HB.out.cell (World.block_lt_of_cell? w _ hx121_1)).trans hx121_1
                 replace hx121_2 := (HB.out.cell (World.block_lt_of_cell? w _ hx121_2)).trans hx121_2
                 replace p121 := eq_true p121
                 replace q121 := eq_true q121
                 try go_wp2_with (first | ((with_reducible refine gate_dst (N := 4) rfl ?_); (try (refine gate_guard (by rfl) ?_; dsimp only)); refine box_event ?hg (N := 4) ?hd (cs := #[.int .i64 0, .int .i64 0, .int .i64 0]) (t := 54) ?hr ?_; (case hd => rfl); (case hg => rfl); (case hr => first | (go_simp; done) | (go_simp; rfl)); intro gb122 hg w41 hbox hb; have n0_ := kl BK117 hb; have n1_ := ls1 HB GE117 hb; have n2_ := Aside0.mk (hbox); have n3_ := Aside0.mk ((by rw [hg]; exact (below_size (lb1 HB GE117)) : w.heap.size ≤ gb122)); have n4_ := Aside0.mk ((by rw [hg]; exact (below_size (lb1 HB GE117)) : w.heap.size ≤ gb122)); have n5_ := kn BK117 hg; have n6_ := km BK117 hg; clear BK117; clear HB; have BK117 := n0_; have HB := n1_; have BK122 := n2_; have GW122 := n3_; have GE122 := n4_; have NB117_122 := n5_; have NB122_117 := n6_; clear n0_ n1_ n2_ n3_ n4_ n5_ n6_; clear hb hbox hg; have hnb42 := NB122_117.out; have hnc42 := NB117_122.out; have hcz43_0 := bc BK122 0; have hcz43_1 := bc BK122 1; have hcz43_2 := bc BK122 2; have hfz43_0 := blk_frozen BK122.out 0; have hfz43_1 := blk_frozen BK122.out 1; have hfz43_2 := blk_frozen BK122.out 2))
                 have n0_ : Aside0 ((((w41.setCell ⟨gb122, 0, none⟩ (.int .i64 ((rd_T54 l0_2 x33_2).f0))).setCell ⟨gb122, 1, none⟩ (.int .i64 ((rd_T54 l0_2 x33_2).f1))).setCell ⟨gb122, 2, none⟩ (.int .i64 ((rd_T54 l0_2 x33_2).f2))).heap[gb117]? = some (.cells #[.string a0_0, .int .i64 a0_1, .slice (some ad121) l0_2.length c0_2] 31 (0, 0))) := ⟨kf1 BK117 NB117_122⟩
                 have n1_ : Aside0 ((((w41.setCell ⟨gb122, 0, none⟩ (.int .i64 ((rd_T54 l0_2 x33_2).f0))).setCell ⟨gb122, 1, none⟩ (.int .i64 ((rd_T54 l0_2 x33_2).f1))).setCell ⟨gb122, 2, none⟩ (.int .i64 ((rd_T54 l0_2 x33_2).f2))).heap[gb122]? = some (.cells #[.int .i64 ((rd_T54 l0_2 x33_2).f0), .int .i64 ((rd_T54 l0_2 x33_2).f1), .int .i64 ((rd_T54 l0_2 x33_2).f2)] 54 (0, 0))) := ⟨by (with_reducible repeat (first | refine blk_drewN ?_ _ | refine blk_drew ?_ | refine blk_alloc ?_ _)); refine blk_put (cs := #[.int .i64 ((rd_T54 l0_2 x33_2).f0), .int .i64 ((rd_T54 l0_2 x33_2).f1), .int .i64 0]) ?_ 2 _ rfl; (with_reducible repeat (first | refine blk_drewN ?_ _ | refine blk_drew ?_ | refine blk_alloc ?_ _)); refine blk_put (cs := #[.int .i64 ((rd_T54 l0_2 x33_2).f0), .int .i64 0, .int .i64 0]) ?_ 1 _ rfl; (with_reducible repeat (first | refine blk_drewN ?_ _ | refine blk_drew ?_ | refine blk_alloc ?_ _)); refine blk_put (cs := #[.int .i64 0, .int .i64 0, .int .i64 0]) ?_ 0 _ rfl; (with_reducible repeat (first | refine blk_drewN ?_ _ | refine blk_drew ?_ | refine blk_alloc ?_ _)); exact BK122.out⟩
                 have n2_ : Aside0 (Below w.heap.size w (((w41.setCell ⟨gb122, 0, none⟩ (.int .i64 ((rd_T54 l0_2 x33_2).f0))).setCell ⟨gb122, 1, none⟩ (.int .i64 ((rd_T54 l0_2 x33_2).f1))).setCell ⟨gb122, 2, none⟩ (.int .i64 ((rd_T54 l0_2 x33_2).f2)))) := ⟨lb2 HB GE117 GE122⟩
                 (try clear BK117)
                 (try clear BK122)
                 (try clear HB)
                 generalize (((w41.setCell ⟨gb122, 0, none⟩ (.int .i64 ((rd_T54 l0_2 x33_2).f0))).setCell ⟨gb122, 1, none⟩ (.int .i64 ((rd_T54 l0_2 x33_2).f1))).setCell ⟨gb122, 2, none⟩ (.int .i64 ((rd_T54 l0_2 x33_2).f2))) = w44 at n0_ n1_ n2_ ⊢
                 have BK117 := n0_
                 have BK122 := n1_
                 have HB := n2_
                 clear n0_ n1_ n2_
                 have n0_ := Aside0.mk (blk_drew BK117.out)
                 have n1_ := Aside0.mk (blk_drew BK122.out)
                 have n2_ := Aside0.mk (below_drew1 HB.out)
                 clear BK117
                 clear BK122
                 clear HB
                 have BK117 := n0_
                 have BK122 := n1_
                 have HB := n2_
                 clear n0_ n1_ n2_
                 have p124 : 0 ≤ ((ji28) : Int) := of_decide_eq_true (by first | (with_reducible assumption) | assumption)
                 have q124 : (ji28) < (l0_2.length : Int) := of_decide_eq_true (by first | (with_reducible assumption) | assumption)
                 obtain ⟨ad124, e124, hx124_0, hx124_1, hx124_2⟩ := at_T54 HR0_2.out (ji28) p124 q124
                 have hw124_2 := hx124_2
                 have hw124_1 := hx124_1
                 have hw124_0 := hx124_0
                 obtain rfl : ad121 = ad124 := (by injection e124)
                 replace hx124_0 := (HB.out.cell (World.block_lt_of_cell? w _ hx124_0)).trans hx124_0
                 replace hx124_1 := (HB.out.cell (World.block_lt_of_cell? w _ hx124_1)).trans hx124_1
                 replace hx124_2 := (HB.out.cell (World.block_lt_of_cell? w _ hx124_2)).trans hx124_2
                 replace p124 := eq_true p124
                 replace q124 := eq_true q124
                 refine start_ (n := 32) (S := fun w' => w'.cell? ⟨gb122, 0, none⟩ = some (.int .i64 ((rd_T54 l0_2 x33_2).f0)) ∧ w'.cell? ⟨gb122, 1, none⟩ = some (.int .i64 ((rd_T54 l0_2 x33_2).f1)) ∧ w'.cell? ⟨gb122, 2, none⟩ = some (.int .i64 ((rd_T54 l0_2 x33_2).f2)) ∧ w'.cell? ⟨gb117, 0, none⟩ = some (.string a0_0) ∧ w'.cell? ⟨gb117, 1, none⟩ = some (.int .i64 a0_1) ∧ w'.cell? ⟨gb117, 2, none⟩ = some (.slice (some ad121) l0_2.length c0_2) ∧ w'.cell? (ad121.add (((ji28)).toNat * 3)) = some (.int .i64 ((rd_T54 l0_2 (ji28)).f0)) ∧ w'.cell? ⟨(ad121.add (((ji28)).toNat * 3)).block, (ad121.add (((ji28)).toNat * 3)).off + 1, none⟩ = some (.int .i64 ((rd_T54 l0_2 (ji28)).f1)) ∧ w'.cell? ⟨(ad121.add (((ji28)).toNat * 3)).block, (ad121.add (((ji28)).toNat * 3)).off + 2, none⟩ = some (.int .i64 ((rd_T54 l0_2 (ji28)).f2))) (ds := []) #[false, false, false, false, false, false, false, false, false, false, false, false, false, false, false, false, false, false, false, false, false, false, false, false, false, false, false, false, false, false, false, false] (by kernel_rfl) rfl rfl ⟨(blk_cell BK122.out 0).trans rfl, (blk_cell BK122.out 1).trans rfl, (blk_cell BK122.out 2).trans rfl, (blk_cell BK117.out 0).trans rfl, (blk_cell BK117.out 1).trans rfl, (blk_cell BK117.out 2).trans rfl, ((HB.out.cell (World.block_lt_of_cell? w _ hw124_0)).trans hw124_0), ((HB.out.cell (World.block_lt_of_cell? w _ hw124_1)).trans hw124_1), ((HB.out.cell (World.block_lt_of_cell? w _ hw124_2)).trans hw124_2)⟩ (fun hHeld => ?_); refine with_tabW prepaid_Check.tab8 prepaid_Check.bits8 (fun HT_ HW_ => ?_)
                 generalize w44.drew = w45 at BK117 BK122 HB hx124_0 hx124_1 hx124_2 hHeld ⊢
                 refine p_ 0 38 HT_ ?_
                 refine t_ 1 39 HT_ HW_ rfl rfl hHeld (by rintro w' ⟨s0, s1, s2, s3, s4, s5, s6, s7, s8⟩; go_simp; with_reducible rfl) ?_
                 refine o_ 2 40 HT_ (fun K hK => ?_)
                 refine goes_ Tryd.func38 (by kernel_rfl) rfl #[.int .i64 ((rd_T54 l0_2 x33_2).f0), .int .i64 1] (by rfl) rfl rfl (by (try simp only [List.map_toArray, List.map_cons, List.map_nil]); first | done | rfl | (simp only [List.length_drop, List.length_take]; rfl)) ?_
                 with_reducible refine (prepaid_within.calls ((rd_T54 l0_2 x33_2).f0) 1 true _ A25.out).mono ?_
                 rintro e w' ⟨rfl, ⟨nd, rfl⟩⟩
                 refine ⟨_, rfl, ?_⟩
                 refine hK.out _ _ ⟨(blk_cell BK122.out 0).trans rfl, (blk_cell BK122.out 1).trans rfl, (blk_cell BK122.out 2).trans rfl, (blk_cell BK117.out 0).trans rfl, (blk_cell BK117.out 1).trans rfl, (blk_cell BK117.out 2).trans rfl, ((HB.out.cell (World.block_lt_of_cell? w _ hw124_0)).trans hw124_0), ((HB.out.cell (World.block_lt_of_cell? w _ hw124_1)).trans hw124_1), ((HB.out.cell (World.block_lt_of_cell? w _ hw124_2)).trans hw124_2)⟩ (fun hHeld => ?_)
                 clear hK K
                 refine n_ 40 ?_
                 refine p_ 3 41 HT_ ?_
                 refine p_ 4 42 HT_ ?_
                 refine p_ 5 43 HT_ ?_
                 refine p_ 6 44 HT_ ?_
                 refine p_ 7 45 HT_ ?_
                 refine p_ 8 46 HT_ ?_
                 refine p_ 10 48 HT_ ?_
                 refine p_ 11 49 HT_ ?_
                 refine p_ 15 53 HT_ ?_
                 refine t_ 9 47 HT_ HW_ rfl rfl hHeld (by rintro w' ⟨s0, s1, s2, s3, s4, s5, s6, s7, s8⟩; go_simp; with_reducible rfl) ?_
                 refine p_ 12 50 HT_ ?_
                 refine p_ 13 51 HT_ ?_
                 refine t_ 14 52 HT_ HW_ rfl rfl hHeld (by rintro w' ⟨s0, s1, s2, s3, s4, s5, s6, s7, s8⟩; go_simp; with_reducible rfl) ?_
                 refine t_ 16 54 HT_ HW_ rfl rfl hHeld (by rintro w' ⟨s0, s1, s2, s3, s4, s5, s6, s7, s8⟩; go_simp; with_reducible rfl) ?_
                 refine p_ 17 55 HT_ ?_
                 refine p_ 18 56 HT_ ?_
                 refine p_ 19 57 HT_ ?_
                 refine p_ 20 58 HT_ ?_
                 refine p_ 21 59 HT_ ?_
                 refine t_ 22 60 HT_ HW_ rfl rfl hHeld (by rintro w' ⟨s0, s1, s2, s3, s4, s5, s6, s7, s8⟩; go_simp; with_reducible rfl) ?_
                 refine o_ 23 61 HT_ (fun K hK => ?_)
                 refine goes_ Tryd.func38 (by kernel_rfl) rfl #[.int .i64 ((rd_T54 l0_2 x33_2).f1), .int .i64 0] (by rfl) rfl rfl (by (try simp only [List.map_toArray, List.map_cons, List.map_nil]); first | done | rfl | (simp only [List.length_drop, List.length_take]; rfl)) ?_
                 with_reducible refine (prepaid_within.calls ((rd_T54 l0_2 x33_2).f1) 0 true _ A37.out).mono ?_
                 rintro e w' ⟨rfl, ⟨nd, rfl⟩⟩
                 refine ⟨_, rfl, ?_⟩
                 refine hK.out _ _ ⟨(blk_cell BK122.out 0).trans rfl, (blk_cell BK122.out 1).trans rfl, (blk_cell BK122.out 2).trans rfl, (blk_cell BK117.out 0).trans rfl, (blk_cell BK117.out 1).trans rfl, (blk_cell BK117.out 2).trans rfl, ((HB.out.cell (World.block_lt_of_cell? w _ hw124_0)).trans hw124_0), ((HB.out.cell (World.block_lt_of_cell? w _ hw124_1)).trans hw124_1), ((HB.out.cell (World.block_lt_of_cell? w _ hw124_2)).trans hw124_2)⟩ (fun hHeld => ?_)
                 clear hK K
                 refine n_ 61 ?_
                 refine p_ 24 62 HT_ ?_
                 refine p_ 25 63 HT_ ?_
                 refine p_ 26 64 HT_ ?_
                 refine p_ 27 65 HT_ ?_
                 refine t_ 28 66 HT_ HW_ rfl rfl hHeld (by rintro w' ⟨s0, s1, s2, s3, s4, s5, s6, s7, s8⟩; go_simp; with_reducible rfl) ?_
                 refine o_ 29 67 HT_ (fun K hK => ?_)
                 refine goes_ Tryd.func38 (by kernel_rfl) rfl #[.int .i64 ((rd_T54 l0_2 x33_2).f2), .int .i64 0] (by rfl) rfl rfl (by (try simp only [List.map_toArray, List.map_cons, List.map_nil]); first | done | rfl | (simp only [List.length_drop, List.length_take]; rfl)) ?_
                 with_reducible refine (prepaid_within.calls ((rd_T54 l0_2 x33_2).f2) 0 true _ A39.out).mono ?_
                 rintro e w' ⟨rfl, ⟨nd, rfl⟩⟩
                 refine ⟨_, rfl, ?_⟩
                 refine hK.out _ _ ⟨(blk_cell BK122.out 0).trans rfl, (blk_cell BK122.out 1).trans rfl, (blk_cell BK122.out 2).trans rfl, (blk_cell BK117.out 0).trans rfl, (blk_cell BK117.out 1).trans rfl, (blk_cell BK117.out 2).trans rfl, ((HB.out.cell (World.block_lt_of_cell? w _ hw124_0)).trans hw124_0), ((HB.out.cell (World.block_lt_of_cell? w _ hw124_1)).trans hw124_1), ((HB.out.cell (World.block_lt_of_cell? w _ hw124_2)).trans hw124_2)⟩ (fun hHeld => ?_)
                 clear hK K
                 refine n_ 67 ?_
                 refine p_ 30 68 HT_ ?_
                 refine p_ 31 69 HT_ ?_
                 refine done_ (done_of HT_.out (by kernel_rfl)) ?_
                 try go_wp2
                 go_roundg k2
                 case measure => have := HJ4.out; have := HK2.out; omega
                 case rel => exact ⟨(wrap64 (x33_2 + 1)), (by first | rfl | (simp; done) | (simp [*]; done)), H', ⟨by have := HJ4.out; have := HK2.out; omega⟩, ⟨kb BK117⟩, ⟨lb2 HB GE117 GE122⟩⟩
                ·replace c40 := Bool.eq_false_iff.mpr c40
                 subst c40
                 have H1 : (some 1) = some r := by rw [if_neg (show ¬ (false = true) by decide)] at H; exact H
                 clear H
                 have H := H1
                 clear H1
                 obtain rfl := Option.some.inj H
                 have p121 : 0 ≤ (x33_2 : Int) := of_decide_eq_true (by first | (with_reducible assumption) | assumption)
                 have q121 : x33_2 < (l0_2.length : Int) := of_decide_eq_true (by first | (with_reducible assumption) | assumption)
                 obtain ⟨ad121, e121, hx121_0, hx121_1, hx121_2⟩ := at_T54 HR0_2.out x33_2 p121 q121
                 cases e121
                 replace hx121_0 := (HB.out.cell (World.block_lt_of_cell? w _ hx121_0)).trans hx121_0
                 replace hx121_1 := (HB.out.cell (World.block_lt_of_cell? w _ hx121_1)).trans hx121_1
                 replace hx121_2 := (HB.out.cell (World.block_lt_of_cell? w _ hx121_2)).trans hx121_2
                 replace p121 := eq_true p121
                 replace q121 := eq_true q121
                 try go_wp2_with (first | ((with_reducible refine gate_dst (N := 4) rfl ?_); (try (refine gate_guard (by rfl) ?_; dsimp only)); refine box_event ?hg (N := 4) ?hd (cs := #[.int .i64 0, .int .i64 0, .int .i64 0]) (t := 54) ?hr ?_; (case hd => rfl); (case hg => rfl); (case hr => first | (go_simp; done) | (go_simp; rfl)); intro gb122 hg w46 hbox hb; have n0_ := kl BK117 hb; have n1_ := ls1 HB GE117 hb; have n2_ := Aside0.mk (hbox); have n3_ := Aside0.mk ((by rw [hg]; exact (below_size (lb1 HB GE117)) : w.heap.size ≤ gb122)); have n4_ := Aside0.mk ((by rw [hg]; exact (below_size (lb1 HB GE117)) : w.heap.size ≤ gb122)); have n5_ := kn BK117 hg; have n6_ := km BK117 hg; clear BK117; clear HB; have BK117 := n0_; have HB := n1_; have BK122 := n2_; have GW122 := n3_; have GE122 := n4_; have NB117_122 := n5_; have NB122_117 := n6_; clear n0_ n1_ n2_ n3_ n4_ n5_ n6_; clear hb hbox hg; have hnb47 := NB122_117.out; have hnc47 := NB117_122.out; have hcz48_0 := bc BK122 0; have hcz48_1 := bc BK122 1; have hcz48_2 := bc BK122 2; have hfz48_0 := blk_frozen BK122.out 0; have hfz48_1 := blk_frozen BK122.out 1; have hfz48_2 := blk_frozen BK122.out 2))
                 have n0_ : Aside0 ((((w46.setCell ⟨gb122, 0, none⟩ (.int .i64 ((rd_T54 l0_2 x33_2).f0))).setCell ⟨gb122, 1, none⟩ (.int .i64 ((rd_T54 l0_2 x33_2).f1))).setCell ⟨gb122, 2, none⟩ (.int .i64 ((rd_T54 l0_2 x33_2).f2))).heap[gb117]? = some (.cells #[.string a0_0, .int .i64 a0_1, .slice (some ad121) l0_2.length c0_2] 31 (0, 0))) := ⟨kf1 BK117 NB117_122⟩
                 have n1_ : Aside0 ((((w46.setCell ⟨gb122, 0, none⟩ (.int .i64 ((rd_T54 l0_2 x33_2).f0))).setCell ⟨gb122, 1, none⟩ (.int .i64 ((rd_T54 l0_2 x33_2).f1))).setCell ⟨gb122, 2, none⟩ (.int .i64 ((rd_T54 l0_2 x33_2).f2))).heap[gb122]? = some (.cells #[.int .i64 ((rd_T54 l0_2 x33_2).f0), .int .i64 ((rd_T54 l0_2 x33_2).f1), .int .i64 ((rd_T54 l0_2 x33_2).f2)] 54 (0, 0))) := ⟨by (with_reducible repeat (first | refine blk_drewN ?_ _ | refine blk_drew ?_ | refine blk_alloc ?_ _)); refine blk_put (cs := #[.int .i64 ((rd_T54 l0_2 x33_2).f0), .int .i64 ((rd_T54 l0_2 x33_2).f1), .int .i64 0]) ?_ 2 _ rfl; (with_reducible repeat (first | refine blk_drewN ?_ _ | refine blk_drew ?_ | refine blk_alloc ?_ _)); refine blk_put (cs := #[.int .i64 ((rd_T54 l0_2 x33_2).f0), .int .i64 0, .int .i64 0]) ?_ 1 _ rfl; (with_reducible repeat (first | refine blk_drewN ?_ _ | refine blk_drew ?_ | refine blk_alloc ?_ _)); refine blk_put (cs := #[.int .i64 0, .int .i64 0, .int .i64 0]) ?_ 0 _ rfl; (with_reducible repeat (first | refine blk_drewN ?_ _ | refine blk_drew ?_ | refine blk_alloc ?_ _)); exact BK122.out⟩
                 have n2_ : Aside0 (Below w.heap.size w (((w46.setCell ⟨gb122, 0, none⟩ (.int .i64 ((rd_T54 l0_2 x33_2).f0))).setCell ⟨gb122, 1, none⟩ (.int .i64 ((rd_T54 l0_2 x33_2).f1))).setCell ⟨gb122, 2, none⟩ (.int .i64 ((rd_T54 l0_2 x33_2).f2)))) := ⟨lb2 HB GE117 GE122⟩
                 (try clear BK117)
                 (try clear BK122)
                 (try clear HB)
                 generalize (((w46.setCell ⟨gb122, 0, none⟩ (.int .i64 ((rd_T54 l0_2 x33_2).f0))).setCell ⟨gb122, 1, none⟩ (.int .i64 ((rd_T54 l0_2 x33_2).f1))).setCell ⟨gb122, 2, none⟩ (.int .i64 ((rd_T54 l0_2 x33_2).f2))) = w49 at n0_ n1_ n2_ ⊢
                 have BK117 := n0_
                 have BK122 := n1_
                 have HB := n2_
                 clear n0_ n1_ n2_
                 have n0_ := Aside0.mk (blk_drew BK117.out)
                 have n1_ := Aside0.mk (blk_drew BK122.out)
                 have n2_ := Aside0.mk (below_drew1 HB.out)
                 clear BK117
                 clear BK122
                 clear HB
                 have BK117 := n0_
                 have BK122 := n1_
                 have HB := n2_
                 clear n0_ n1_ n2_
                 have p124 : 0 ≤ ((ji28) : Int) := of_decide_eq_true (by first | (with_reducible assumption) | assumption)
                 have q124 : (ji28) < (l0_2.length : Int) := of_decide_eq_true (by first | (with_reducible assumption) | assumption)
                 obtain ⟨ad124, e124, hx124_0, hx124_1, hx124_2⟩ := at_T54 HR0_2.out (ji28) p124 q124
                 have hw124_2 := hx124_2
                 have hw124_1 := hx124_1
                 have hw124_0 := hx124_0
                 obtain rfl : ad121 = ad124 := (by injection e124)
                 replace hx124_0 := (HB.out.cell (World.block_lt_of_cell? w _ hx124_0)).trans hx124_0
                 replace hx124_1 := (HB.out.cell (World.block_lt_of_cell? w _ hx124_1)).trans hx124_1
                 replace hx124_2 := (HB.out.cell (World.block_lt_of_cell? w _ hx124_2)).trans hx124_2
                 replace p124 := eq_true p124
                 replace q124 := eq_true q124
                 refine start_ (n := 32) (S := fun w' => w'.cell? ⟨gb122, 0, none⟩ = some (.int .i64 ((rd_T54 l0_2 x33_2).f0)) ∧ w'.cell? ⟨gb122, 1, none⟩ = some (.int .i64 ((rd_T54 l0_2 x33_2).f1)) ∧ w'.cell? ⟨gb122, 2, none⟩ = some (.int .i64 ((rd_T54 l0_2 x33_2).f2)) ∧ w'.cell? ⟨gb117, 0, none⟩ = some (.string a0_0) ∧ w'.cell? ⟨gb117, 1, none⟩ = some (.int .i64 a0_1) ∧ w'.cell? ⟨gb117, 2, none⟩ = some (.slice (some ad121) l0_2.length c0_2) ∧ w'.cell? (ad121.add (((ji28)).toNat * 3)) = some (.int .i64 ((rd_T54 l0_2 (ji28)).f0)) ∧ w'.cell? ⟨(ad121.add (((ji28)).toNat * 3)).block, (ad121.add (((ji28)).toNat * 3)).off + 1, none⟩ = some (.int .i64 ((rd_T54 l0_2 (ji28)).f1)) ∧ w'.cell? ⟨(ad121.add (((ji28)).toNat * 3)).block, (ad121.add (((ji28)).toNat * 3)).off + 2, none⟩ = some (.int .i64 ((rd_T54 l0_2 (ji28)).f2))) (ds := []) #[false, false, false, false, false, false, false, false, false, false, false, false, false, false, false, false, false, false, false, false, false, false, false, false, false, false, false, false, false, false, false, false] (by kernel_rfl) rfl rfl ⟨(blk_cell BK122.out 0).trans rfl, (blk_cell BK122.out 1).trans rfl, (blk_cell BK122.out 2).trans rfl, (blk_cell BK117.out 0).trans rfl, (blk_cell BK117.out 1).trans rfl, (blk_cell BK117.out 2).trans rfl, ((HB.out.cell (World.block_lt_of_cell? w _ hw124_0)).trans hw124_0), ((HB.out.cell (World.block_lt_of_cell? w _ hw124_1)).trans hw124_1), ((HB.out.cell (World.block_lt_of_cell? w _ hw124_2)).trans hw124_2)⟩ (fun hHeld => ?_); refine with_tabW prepaid_Check.tab8 prepaid_Check.bits8 (fun HT_ HW_ => ?_)
                 generalize w49.drew = w50 at BK117 BK122 HB hx124_0 hx124_1 hx124_2 hHeld ⊢
                 refine p_ 0 38 HT_ ?_
                 refine t_ 1 39 HT_ HW_ rfl rfl hHeld (by rintro w' ⟨s0, s1, s2, s3, s4, s5, s6, s7, s8⟩; go_simp; with_reducible rfl) ?_
                 refine o_ 2 40 HT_ (fun K hK => ?_)
                 refine goes_ Tryd.func38 (by kernel_rfl) rfl #[.int .i64 ((rd_T54 l0_2 x33_2).f0), .int .i64 1] (by rfl) rfl rfl (by (try simp only [List.map_toArray, List.map_cons, List.map_nil]); first | done | rfl | (simp only [List.length_drop, List.length_take]; rfl)) ?_
                 with_reducible refine (prepaid_within.calls ((rd_T54 l0_2 x33_2).f0) 1 true _ A25.out).mono ?_
                 rintro e w' ⟨rfl, ⟨nd, rfl⟩⟩
                 refine ⟨_, rfl, ?_⟩
                 refine hK.out _ _ ⟨(blk_cell BK122.out 0).trans rfl, (blk_cell BK122.out 1).trans rfl, (blk_cell BK122.out 2).trans rfl, (blk_cell BK117.out 0).trans rfl, (blk_cell BK117.out 1).trans rfl, (blk_cell BK117.out 2).trans rfl, ((HB.out.cell (World.block_lt_of_cell? w _ hw124_0)).trans hw124_0), ((HB.out.cell (World.block_lt_of_cell? w _ hw124_1)).trans hw124_1), ((HB.out.cell (World.block_lt_of_cell? w _ hw124_2)).trans hw124_2)⟩ (fun hHeld => ?_)
                 clear hK K
                 refine n_ 40 ?_
                 refine p_ 3 41 HT_ ?_
                 refine p_ 4 42 HT_ ?_
                 refine p_ 5 43 HT_ ?_
                 refine p_ 6 44 HT_ ?_
                 refine p_ 7 45 HT_ ?_
                 refine p_ 8 46 HT_ ?_
                 refine p_ 10 48 HT_ ?_
                 refine p_ 11 49 HT_ ?_
                 refine p_ 15 53 HT_ ?_
                 refine t_ 9 47 HT_ HW_ rfl rfl hHeld (by rintro w' ⟨s0, s1, s2, s3, s4, s5, s6, s7, s8⟩; go_simp; with_reducible rfl) ?_
                 refine p_ 12 50 HT_ ?_
                 refine p_ 13 51 HT_ ?_
                 refine t_ 14 52 HT_ HW_ rfl rfl hHeld (by rintro w' ⟨s0, s1, s2, s3, s4, s5, s6, s7, s8⟩; go_simp; with_reducible rfl) ?_
                 refine t_ 16 54 HT_ HW_ rfl rfl hHeld (by rintro w' ⟨s0, s1, s2, s3, s4, s5, s6, s7, s8⟩; go_simp; with_reducible rfl) ?_
                 refine p_ 17 55 HT_ ?_
                 refine p_ 18 56 HT_ ?_
                 refine p_ 19 57 HT_ ?_
                 refine p_ 20 58 HT_ ?_
                 refine p_ 21 59 HT_ ?_
                 refine t_ 22 60 HT_ HW_ rfl rfl hHeld (by rintro w' ⟨s0, s1, s2, s3, s4, s5, s6, s7, s8⟩; go_simp; with_reducible rfl) ?_
                 refine o_ 23 61 HT_ (fun K hK => ?_)
                 refine goes_ Tryd.func38 (by kernel_rfl) rfl #[.int .i64 ((rd_T54 l0_2 x33_2).f1), .int .i64 0] (by rfl) rfl rfl (by (try simp only [List.map_toArray, List.map_cons, List.map_nil]); first | done | rfl | (simp only [List.length_drop, List.length_take]; rfl)) ?_
                 with_reducible refine (prepaid_within.calls ((rd_T54 l0_2 x33_2).f1) 0 true _ A37.out).mono ?_
                 rintro e w' ⟨rfl, ⟨nd, rfl⟩⟩
                 refine ⟨_, rfl, ?_⟩
                 refine hK.out _ _ ⟨(blk_cell BK122.out 0).trans rfl, (blk_cell BK122.out 1).trans rfl, (blk_cell BK122.out 2).trans rfl, (blk_cell BK117.out 0).trans rfl, (blk_cell BK117.out 1).trans rfl, (blk_cell BK117.out 2).trans rfl, ((HB.out.cell (World.block_lt_of_cell? w _ hw124_0)).trans hw124_0), ((HB.out.cell (World.block_lt_of_cell? w _ hw124_1)).trans hw124_1), ((HB.out.cell (World.block_lt_of_cell? w _ hw124_2)).trans hw124_2)⟩ (fun hHeld => ?_)
                 clear hK K
                 refine n_ 61 ?_
                 refine p_ 24 62 HT_ ?_
                 refine p_ 25 63 HT_ ?_
                 refine p_ 26 64 HT_ ?_
                 refine p_ 27 65 HT_ ?_
                 refine t_ 28 66 HT_ HW_ rfl rfl hHeld (by rintro w' ⟨s0, s1, s2, s3, s4, s5, s6, s7, s8⟩; go_simp; with_reducible rfl) ?_
                 refine o_ 29 67 HT_ (fun K hK => ?_)
                 refine goes_ Tryd.func38 (by kernel_rfl) rfl #[.int .i64 ((rd_T54 l0_2 x33_2).f2), .int .i64 0] (by rfl) rfl rfl (by (try simp only [List.map_toArray, List.map_cons, List.map_nil]); first | done | rfl | (simp only [List.length_drop, List.length_take]; rfl)) ?_
                 with_reducible refine (prepaid_within.calls ((rd_T54 l0_2 x33_2).f2) 0 false _ A39.out).mono ?_
                 rintro e w' ⟨rfl, ⟨nd, rfl⟩⟩
                 refine ⟨_, rfl, ?_⟩
                 refine hK.out _ _ ⟨(blk_cell BK122.out 0).trans rfl, (blk_cell BK122.out 1).trans rfl, (blk_cell BK122.out 2).trans rfl, (blk_cell BK117.out 0).trans rfl, (blk_cell BK117.out 1).trans rfl, (blk_cell BK117.out 2).trans rfl, ((HB.out.cell (World.block_lt_of_cell? w _ hw124_0)).trans hw124_0), ((HB.out.cell (World.block_lt_of_cell? w _ hw124_1)).trans hw124_1), ((HB.out.cell (World.block_lt_of_cell? w _ hw124_2)).trans hw124_2)⟩ (fun hHeld => ?_)
                 clear hK K
                 refine n_ 67 ?_
                 refine p_ 30 68 HT_ ?_
                 refine p_ 31 69 HT_ ?_
                 refine done_ (done_of HT_.out (by kernel_rfl)) ?_
                 try go_wp2
                 go_ret
                 exact ⟨by first | rfl | (simp [errW_none, errW_some] <;> rfl) | (simp only [← hji28]; first | rfl | (simp [errW_none, errW_some] <;> rfl)) | (simp [*, errW_none, errW_some] <;> rfl), lb2 HB GE117 GE122⟩
               ·replace c38 := Bool.eq_false_iff.mpr c38
                subst c38
                have H1 : (some 1) = some r := by rw [if_neg (show ¬ (false = true) by decide)] at H; exact H
                clear H
                have H := H1
                clear H1
                obtain rfl := Option.some.inj H
                have p121 : 0 ≤ (x33_2 : Int) := of_decide_eq_true (by first | (with_reducible assumption) | assumption)
                have q121 : x33_2 < (l0_2.length : Int) := of_decide_eq_true (by first | (with_reducible assumption) | assumption)
                obtain ⟨ad121, e121, hx121_0, hx121_1, hx121_2⟩ := at_T54 HR0_2.out x33_2 p121 q121
                cases e121
                replace hx121_0 := (HB.out.cell (World.block_lt_of_cell? w _ hx121_0)).trans hx121_0
                replace hx121_1 := (HB.out.cell (World.block_lt_of_cell? w _ hx121_1)).trans hx121_1
                replace hx121_2 := (HB.out.cell (World.block_lt_of_cell? w _ hx121_2)).trans hx121_2
                replace p121 := eq_true p121
                replace q121 := eq_true q121
                try go_wp2_with (first | ((with_reducible refine gate_dst (N := 4) rfl ?_); (try (refine gate_guard (by rfl) ?_; dsimp only)); refine box_event ?hg (N := 4) ?hd (cs := #[.int .i64 0, .int .i64 0, .int .i64 0]) (t := 54) ?hr ?_; (case hd => rfl); (case hg => rfl); (case hr => first | (go_simp; done) | (go_simp; rfl)); intro gb122 hg w51 hbox hb; have n0_ := kl BK117 hb; have n1_ := ls1 HB GE117 hb; have n2_ := Aside0.mk (hbox); have n3_ := Aside0.mk ((by rw [hg]; exact (below_size (lb1 HB GE117)) : w.heap.size ≤ gb122)); have n4_ := Aside0.mk ((by rw [hg]; exact (below_size (lb1 HB GE117)) : w.heap.size ≤ gb122)); have n5_ := kn BK117 hg; have n6_ := km BK117 hg; clear BK117; clear HB; have BK117 := n0_; have HB := n1_; have BK122 := n2_; have GW122 := n3_; have GE122 := n4_; have NB117_122 := n5_; have NB122_117 := n6_; clear n0_ n1_ n2_ n3_ n4_ n5_ n6_; clear hb hbox hg; have hnb52 := NB122_117.out; have hnc52 := NB117_122.out; have hcz53_0 := bc BK122 0; have hcz53_1 := bc BK122 1; have hcz53_2 := bc BK122 2; have hfz53_0 := blk_frozen BK122.out 0; have hfz53_1 := blk_frozen BK122.out 1; have hfz53_2 := blk_frozen BK122.out 2))
                have n0_ : Aside0 ((((w51.setCell ⟨gb122, 0, none⟩ (.int .i64 ((rd_T54 l0_2 x33_2).f0))).setCell ⟨gb122, 1, none⟩ (.int .i64 ((rd_T54 l0_2 x33_2).f1))).setCell ⟨gb122, 2, none⟩ (.int .i64 ((rd_T54 l0_2 x33_2).f2))).heap[gb117]? = some (.cells #[.string a0_0, .int .i64 a0_1, .slice (some ad121) l0_2.length c0_2] 31 (0, 0))) := ⟨kf1 BK117 NB117_122⟩
                have n1_ : Aside0 ((((w51.setCell ⟨gb122, 0, none⟩ (.int .i64 ((rd_T54 l0_2 x33_2).f0))).setCell ⟨gb122, 1, none⟩ (.int .i64 ((rd_T54 l0_2 x33_2).f1))).setCell ⟨gb122, 2, none⟩ (.int .i64 ((rd_T54 l0_2 x33_2).f2))).heap[gb122]? = some (.cells #[.int .i64 ((rd_T54 l0_2 x33_2).f0), .int .i64 ((rd_T54 l0_2 x33_2).f1), .int .i64 ((rd_T54 l0_2 x33_2).f2)] 54 (0, 0))) := ⟨by (with_reducible repeat (first | refine blk_drewN ?_ _ | refine blk_drew ?_ | refine blk_alloc ?_ _)); refine blk_put (cs := #[.int .i64 ((rd_T54 l0_2 x33_2).f0), .int .i64 ((rd_T54 l0_2 x33_2).f1), .int .i64 0]) ?_ 2 _ rfl; (with_reducible repeat (first | refine blk_drewN ?_ _ | refine blk_drew ?_ | refine blk_alloc ?_ _)); refine blk_put (cs := #[.int .i64 ((rd_T54 l0_2 x33_2).f0), .int .i64 0, .int .i64 0]) ?_ 1 _ rfl; (with_reducible repeat (first | refine blk_drewN ?_ _ | refine blk_drew ?_ | refine blk_alloc ?_ _)); refine blk_put (cs := #[.int .i64 0, .int .i64 0, .int .i64 0]) ?_ 0 _ rfl; (with_reducible repeat (first | refine blk_drewN ?_ _ | refine blk_drew ?_ | refine blk_alloc ?_ _)); exact BK122.out⟩
                have n2_ : Aside0 (Below w.heap.size w (((w51.setCell ⟨gb122, 0, none⟩ (.int .i64 ((rd_T54 l0_2 x33_2).f0))).setCell ⟨gb122, 1, none⟩ (.int .i64 ((rd_T54 l0_2 x33_2).f1))).setCell ⟨gb122, 2, none⟩ (.int .i64 ((rd_T54 l0_2 x33_2).f2)))) := ⟨lb2 HB GE117 GE122⟩
                (try clear BK117)
                (try clear BK122)
                (try clear HB)
                generalize (((w51.setCell ⟨gb122, 0, none⟩ (.int .i64 ((rd_T54 l0_2 x33_2).f0))).setCell ⟨gb122, 1, none⟩ (.int .i64 ((rd_T54 l0_2 x33_2).f1))).setCell ⟨gb122, 2, none⟩ (.int .i64 ((rd_T54 l0_2 x33_2).f2))) = w54 at n0_ n1_ n2_ ⊢
                have BK117 := n0_
                have BK122 := n1_
                have HB := n2_
                clear n0_ n1_ n2_
                have n0_ := Aside0.mk (blk_drew BK117.out)
                have n1_ := Aside0.mk (blk_drew BK122.out)
                have n2_ := Aside0.mk (below_drew1 HB.out)
                clear BK117
                clear BK122
                clear HB
                have BK117 := n0_
                have BK122 := n1_
                have HB := n2_
                clear n0_ n1_ n2_
                have p124 : 0 ≤ ((ji28) : Int) := of_decide_eq_true (by first | (with_reducible assumption) | assumption)
                have q124 : (ji28) < (l0_2.length : Int) := of_decide_eq_true (by first | (with_reducible assumption) | assumption)
                obtain ⟨ad124, e124, hx124_0, hx124_1, hx124_2⟩ := at_T54 HR0_2.out (ji28) p124 q124
                have hw124_2 := hx124_2
                have hw124_1 := hx124_1
                have hw124_0 := hx124_0
                obtain rfl : ad121 = ad124 := (by injection e124)
                replace hx124_0 := (HB.out.cell (World.block_lt_of_cell? w _ hx124_0)).trans hx124_0
                replace hx124_1 := (HB.out.cell (World.block_lt_of_cell? w _ hx124_1)).trans hx124_1
                replace hx124_2 := (HB.out.cell (World.block_lt_of_cell? w _ hx124_2)).trans hx124_2
                replace p124 := eq_true p124
                replace q124 := eq_true q124
                refine start_ (n := 32) (S := fun w' => w'.cell? ⟨gb122, 0, none⟩ = some (.int .i64 ((rd_T54 l0_2 x33_2).f0)) ∧ w'.cell? ⟨gb122, 1, none⟩ = some (.int .i64 ((rd_T54 l0_2 x33_2).f1)) ∧ w'.cell? ⟨gb122, 2, none⟩ = some (.int .i64 ((rd_T54 l0_2 x33_2).f2)) ∧ w'.cell? ⟨gb117, 0, none⟩ = some (.string a0_0) ∧ w'.cell? ⟨gb117, 1, none⟩ = some (.int .i64 a0_1) ∧ w'.cell? ⟨gb117, 2, none⟩ = some (.slice (some ad121) l0_2.length c0_2) ∧ w'.cell? (ad121.add (((ji28)).toNat * 3)) = some (.int .i64 ((rd_T54 l0_2 (ji28)).f0)) ∧ w'.cell? ⟨(ad121.add (((ji28)).toNat * 3)).block, (ad121.add (((ji28)).toNat * 3)).off + 1, none⟩ = some (.int .i64 ((rd_T54 l0_2 (ji28)).f1)) ∧ w'.cell? ⟨(ad121.add (((ji28)).toNat * 3)).block, (ad121.add (((ji28)).toNat * 3)).off + 2, none⟩ = some (.int .i64 ((rd_T54 l0_2 (ji28)).f2))) (ds := []) #[false, false, false, false, false, false, false, false, false, false, false, false, false, false, false, false, false, false, false, false, false, false, false, false, false, false, false, false, false, false, false, false] (by kernel_rfl) rfl rfl ⟨(blk_cell BK122.out 0).trans rfl, (blk_cell BK122.out 1).trans rfl, (blk_cell BK122.out 2).trans rfl, (blk_cell BK117.out 0).trans rfl, (blk_cell BK117.out 1).trans rfl, (blk_cell BK117.out 2).trans rfl, ((HB.out.cell (World.block_lt_of_cell? w _ hw124_0)).trans hw124_0), ((HB.out.cell (World.block_lt_of_cell? w _ hw124_1)).trans hw124_1), ((HB.out.cell (World.block_lt_of_cell? w _ hw124_2)).trans hw124_2)⟩ (fun hHeld => ?_); refine with_tabW prepaid_Check.tab8 prepaid_Check.bits8 (fun HT_ HW_ => ?_)
                generalize w54.drew = w55 at BK117 BK122 HB hx124_0 hx124_1 hx124_2 hHeld ⊢
                refine p_ 0 38 HT_ ?_
                refine t_ 1 39 HT_ HW_ rfl rfl hHeld (by rintro w' ⟨s0, s1, s2, s3, s4, s5, s6, s7, s8⟩; go_simp; with_reducible rfl) ?_
                refine o_ 2 40 HT_ (fun K hK => ?_)
                refine goes_ Tryd.func38 (by kernel_rfl) rfl #[.int .i64 ((rd_T54 l0_2 x33_2).f0), .int .i64 1] (by rfl) rfl rfl (by (try simp only [List.map_toArray, List.map_cons, List.map_nil]); first | done | rfl | (simp only [List.length_drop, List.length_take]; rfl)) ?_
                with_reducible refine (prepaid_within.calls ((rd_T54 l0_2 x33_2).f0) 1 true _ A25.out).mono ?_
                rintro e w' ⟨rfl, ⟨nd, rfl⟩⟩
                refine ⟨_, rfl, ?_⟩
                refine hK.out _ _ ⟨(blk_cell BK122.out 0).trans rfl, (blk_cell BK122.out 1).trans rfl, (blk_cell BK122.out 2).trans rfl, (blk_cell BK117.out 0).trans rfl, (blk_cell BK117.out 1).trans rfl, (blk_cell BK117.out 2).trans rfl, ((HB.out.cell (World.block_lt_of_cell? w _ hw124_0)).trans hw124_0), ((HB.out.cell (World.block_lt_of_cell? w _ hw124_1)).trans hw124_1), ((HB.out.cell (World.block_lt_of_cell? w _ hw124_2)).trans hw124_2)⟩ (fun hHeld => ?_)
                clear hK K
                refine n_ 40 ?_
                refine p_ 3 41 HT_ ?_
                refine p_ 4 42 HT_ ?_
                refine p_ 5 43 HT_ ?_
                refine p_ 6 44 HT_ ?_
                refine p_ 7 45 HT_ ?_
                refine p_ 8 46 HT_ ?_
                refine p_ 10 48 HT_ ?_
                refine p_ 11 49 HT_ ?_
                refine p_ 15 53 HT_ ?_
                refine t_ 9 47 HT_ HW_ rfl rfl hHeld (by rintro w' ⟨s0, s1, s2, s3, s4, s5, s6, s7, s8⟩; go_simp; with_reducible rfl) ?_
                refine p_ 12 50 HT_ ?_
                refine p_ 13 51 HT_ ?_
                refine t_ 14 52 HT_ HW_ rfl rfl hHeld (by rintro w' ⟨s0, s1, s2, s3, s4, s5, s6, s7, s8⟩; go_simp; with_reducible rfl) ?_
                refine t_ 16 54 HT_ HW_ rfl rfl hHeld (by rintro w' ⟨s0, s1, s2, s3, s4, s5, s6, s7, s8⟩; go_simp; with_reducible rfl) ?_
                refine p_ 17 55 HT_ ?_
                refine p_ 18 56 HT_ ?_
                refine p_ 19 57 HT_ ?_
                refine p_ 20 58 HT_ ?_
                refine p_ 21 59 HT_ ?_
                refine t_ 22 60 HT_ HW_ rfl rfl hHeld (by rintro w' ⟨s0, s1, s2, s3, s4, s5, s6, s7, s8⟩; go_simp; with_reducible rfl) ?_
                refine o_ 23 61 HT_ (fun K hK => ?_)
                refine goes_ Tryd.func38 (by kernel_rfl) rfl #[.int .i64 ((rd_T54 l0_2 x33_2).f1), .int .i64 0] (by rfl) rfl rfl (by (try simp only [List.map_toArray, List.map_cons, List.map_nil]); first | done | rfl | (simp only [List.length_drop, List.length_take]; rfl)) ?_
                with_reducible refine (prepaid_within.calls ((rd_T54 l0_2 x33_2).f1) 0 false _ A37.out).mono ?_
                rintro e w' ⟨rfl, ⟨nd, rfl⟩⟩
                refine ⟨_, rfl, ?_⟩
                refine hK.out _ _ ⟨(blk_cell BK122.out 0).trans rfl, (blk_cell BK122.out 1).trans rfl, (blk_cell BK122.out 2).trans rfl, (blk_cell BK117.out 0).trans rfl, (blk_cell BK117.out 1).trans rfl, (blk_cell BK117.out 2).trans rfl, ((HB.out.cell (World.block_lt_of_cell? w _ hw124_0)).trans hw124_0), ((HB.out.cell (World.block_lt_of_cell? w _ hw124_1)).trans hw124_1), ((HB.out.cell (World.block_lt_of_cell? w _ hw124_2)).trans hw124_2)⟩ (fun hHeld => ?_)
                clear hK K
                refine n_ 61 ?_
                refine p_ 24 62 HT_ ?_
                refine p_ 25 63 HT_ ?_
                refine p_ 26 64 HT_ ?_
                refine q_ 27 65 HT_ ?_
                refine q_ 28 66 HT_ ?_
                refine q_ 29 67 HT_ ?_
                refine q_ 30 68 HT_ ?_
                refine p_ 31 69 HT_ ?_
                refine done_ (done_of HT_.out (by kernel_rfl)) ?_
                try go_wp2
                go_ret
                exact ⟨by first | rfl | (simp [errW_none, errW_some] <;> rfl) | (simp only [← hji28]; first | rfl | (simp [errW_none, errW_some] <;> rfl)) | (simp [*, errW_none, errW_some] <;> rfl), lb2 HB GE117 GE122⟩
             ·rw [if_neg c30] at H
              exact absurd H (by simp)
            ·rw [if_neg c29] at H
             exact absurd H (by simp)
           ·rw [if_neg c27] at H
            have c27b0 : decide (0 < x33_2) = false := decide_eq_false c27
            clear c27
            replace H := Option.bind_eq_some_iff.mp H
            obtain ⟨t127, A560, H⟩ := H
            replace H : (if t127 = true then ((prepaid_within.f ((rd_T54 l0_2 x33_2).f2) 0).bind fun t128 => (if t128 = true then (prepaid_Check.l0 k2 l0_2 (l0_2.length : Int) (wrap64 (x33_2 + 1)) a0_0 a0_1 l0_2) else (some 1))) else (some 1)) = some r := H
            have A56 := Aside0.mk A560
            clear A560
            by_cases c57 : t127 = true
            ·subst c57
             have H1 : ((prepaid_within.f ((rd_T54 l0_2 x33_2).f2) 0).bind fun t128 => (if t128 = true then (prepaid_Check.l0 k2 l0_2 (l0_2.length : Int) (wrap64 (x33_2 + 1)) a0_0 a0_1 l0_2) else (some 1))) = some r := by rw [if_pos rfl] at H; exact H
             clear H
             have H := H1
             clear H1
             replace H := Option.bind_eq_some_iff.mp H
             obtain ⟨t128, A580, H⟩ := H
             replace H : (if t128 = true then (prepaid_Check.l0 k2 l0_2 (l0_2.length : Int) (wrap64 (x33_2 + 1)) a0_0 a0_1 l0_2) else (some 1)) = some r := H
             have A58 := Aside0.mk A580
             clear A580
             by_cases c59 : t128 = true
             ·subst c59
              have H1 : (prepaid_Check.l0 k2 l0_2 (l0_2.length : Int) (wrap64 (x33_2 + 1)) a0_0 a0_1 l0_2) = some r := by rw [if_pos rfl] at H; exact H
              clear H
              have H := H1
              clear H1
              have H' := Aside0.mk H
              clear H
              have p121 : 0 ≤ (x33_2 : Int) := of_decide_eq_true (by first | (with_reducible assumption) | assumption)
              have q121 : x33_2 < (l0_2.length : Int) := of_decide_eq_true (by first | (with_reducible assumption) | assumption)
              obtain ⟨ad121, e121, hx121_0, hx121_1, hx121_2⟩ := at_T54 HR0_2.out x33_2 p121 q121
              cases e121
              replace hx121_0 := (HB.out.cell (World.block_lt_of_cell? w _ hx121_0)).trans hx121_0
              replace hx121_1 := (HB.out.cell (World.block_lt_of_cell? w _ hx121_1)).trans hx121_1
              replace hx121_2 := (HB.out.cell (World.block_lt_of_cell? w _ hx121_2)).trans hx121_2
              replace p121 := eq_true p121
              replace q121 := eq_true q121
              try go_wp2_with (first | ((with_reducible refine gate_dst (N := 4) rfl ?_); (try (refine gate_guard (by rfl) ?_; dsimp only)); refine box_event ?hg (N := 4) ?hd (cs := #[.int .i64 0, .int .i64 0, .int .i64 0]) (t := 54) ?hr ?_; (case hd => rfl); (case hg => rfl); (case hr => first | (go_simp; done) | (go_simp; rfl)); intro gb122 hg w60 hbox hb; have n0_ := kl BK117 hb; have n1_ := ls1 HB GE117 hb; have n2_ := Aside0.mk (hbox); have n3_ := Aside0.mk ((by rw [hg]; exact (below_size (lb1 HB GE117)) : w.heap.size ≤ gb122)); have n4_ := Aside0.mk ((by rw [hg]; exact (below_size (lb1 HB GE117)) : w.heap.size ≤ gb122)); have n5_ := kn BK117 hg; have n6_ := km BK117 hg; clear BK117; clear HB; have BK117 := n0_; have HB := n1_; have BK122 := n2_; have GW122 := n3_; have GE122 := n4_; have NB117_122 := n5_; have NB122_117 := n6_; clear n0_ n1_ n2_ n3_ n4_ n5_ n6_; clear hb hbox hg; have hnb61 := NB122_117.out; have hnc61 := NB117_122.out; have hcz62_0 := bc BK122 0; have hcz62_1 := bc BK122 1; have hcz62_2 := bc BK122 2; have hfz62_0 := blk_frozen BK122.out 0; have hfz62_1 := blk_frozen BK122.out 1; have hfz62_2 := blk_frozen BK122.out 2))
              have n0_ : Aside0 ((((w60.setCell ⟨gb122, 0, none⟩ (.int .i64 ((rd_T54 l0_2 x33_2).f0))).setCell ⟨gb122, 1, none⟩ (.int .i64 ((rd_T54 l0_2 x33_2).f1))).setCell ⟨gb122, 2, none⟩ (.int .i64 ((rd_T54 l0_2 x33_2).f2))).heap[gb117]? = some (.cells #[.string a0_0, .int .i64 a0_1, .slice (some ad121) l0_2.length c0_2] 31 (0, 0))) := ⟨kf1 BK117 NB117_122⟩
              have n1_ : Aside0 ((((w60.setCell ⟨gb122, 0, none⟩ (.int .i64 ((rd_T54 l0_2 x33_2).f0))).setCell ⟨gb122, 1, none⟩ (.int .i64 ((rd_T54 l0_2 x33_2).f1))).setCell ⟨gb122, 2, none⟩ (.int .i64 ((rd_T54 l0_2 x33_2).f2))).heap[gb122]? = some (.cells #[.int .i64 ((rd_T54 l0_2 x33_2).f0), .int .i64 ((rd_T54 l0_2 x33_2).f1), .int .i64 ((rd_T54 l0_2 x33_2).f2)] 54 (0, 0))) := ⟨by (with_reducible repeat (first | refine blk_drewN ?_ _ | refine blk_drew ?_ | refine blk_alloc ?_ _)); refine blk_put (cs := #[.int .i64 ((rd_T54 l0_2 x33_2).f0), .int .i64 ((rd_T54 l0_2 x33_2).f1), .int .i64 0]) ?_ 2 _ rfl; (with_reducible repeat (first | refine blk_drewN ?_ _ | refine blk_drew ?_ | refine blk_alloc ?_ _)); refine blk_put (cs := #[.int .i64 ((rd_T54 l0_2 x33_2).f0), .int .i64 0, .int .i64 0]) ?_ 1 _ rfl; (with_reducible repeat (first | refine blk_drewN ?_ _ | refine blk_drew ?_ | refine blk_alloc ?_ _)); refine blk_put (cs := #[.int .i64 0, .int .i64 0, .int .i64 0]) ?_ 0 _ rfl; (with_reducible repeat (first | refine blk_drewN ?_ _ | refine blk_drew ?_ | refine blk_alloc ?_ _)); exact BK122.out⟩
              have n2_ : Aside0 (Below w.heap.size w (((w60.setCell ⟨gb122, 0, none⟩ (.int .i64 ((rd_T54 l0_2 x33_2).f0))).setCell ⟨gb122, 1, none⟩ (.int .i64 ((rd_T54 l0_2 x33_2).f1))).setCell ⟨gb122, 2, none⟩ (.int .i64 ((rd_T54 l0_2 x33_2).f2)))) := ⟨lb2 HB GE117 GE122⟩
              (try clear BK117)
              (try clear BK122)
              (try clear HB)
              generalize (((w60.setCell ⟨gb122, 0, none⟩ (.int .i64 ((rd_T54 l0_2 x33_2).f0))).setCell ⟨gb122, 1, none⟩ (.int .i64 ((rd_T54 l0_2 x33_2).f1))).setCell ⟨gb122, 2, none⟩ (.int .i64 ((rd_T54 l0_2 x33_2).f2))) = w63 at n0_ n1_ n2_ ⊢
              have BK117 := n0_
              have BK122 := n1_
              have HB := n2_
              clear n0_ n1_ n2_
              have n0_ := Aside0.mk (blk_drew BK117.out)
              have n1_ := Aside0.mk (blk_drew BK122.out)
              have n2_ := Aside0.mk (below_drew1 HB.out)
              clear BK117
              clear BK122
              clear HB
              have BK117 := n0_
              have BK122 := n1_
              have HB := n2_
              clear n0_ n1_ n2_
              refine start_ (n := 32) (S := fun w' => w'.cell? ⟨gb122, 0, none⟩ = some (.int .i64 ((rd_T54 l0_2 x33_2).f0)) ∧ w'.cell? ⟨gb122, 1, none⟩ = some (.int .i64 ((rd_T54 l0_2 x33_2).f1)) ∧ w'.cell? ⟨gb122, 2, none⟩ = some (.int .i64 ((rd_T54 l0_2 x33_2).f2))) (ds := []) #[false, false, false, false, false, false, false, false, false, false, false, false, false, false, false, false, false, false, false, false, false, false, false, false, false, false, false, false, false, false, false, false] (by kernel_rfl) rfl rfl ⟨(blk_cell BK122.out 0).trans rfl, (blk_cell BK122.out 1).trans rfl, (blk_cell BK122.out 2).trans rfl⟩ (fun hHeld => ?_); refine with_tabW prepaid_Check.tab8 prepaid_Check.bits8 (fun HT_ HW_ => ?_)
              generalize w63.drew = w64 at BK117 BK122 HB hHeld ⊢
              refine p_ 0 38 HT_ ?_
              refine t_ 1 39 HT_ HW_ rfl rfl hHeld (by rintro w' ⟨s0, s1, s2⟩; go_simp; with_reducible rfl) ?_
              refine o_ 2 40 HT_ (fun K hK => ?_)
              refine goes_ Tryd.func38 (by kernel_rfl) rfl #[.int .i64 ((rd_T54 l0_2 x33_2).f0), .int .i64 1] (by rfl) rfl rfl (by (try simp only [List.map_toArray, List.map_cons, List.map_nil]); first | done | rfl | (simp only [List.length_drop, List.length_take]; rfl)) ?_
              with_reducible refine (prepaid_within.calls ((rd_T54 l0_2 x33_2).f0) 1 true _ A25.out).mono ?_
              rintro e w' ⟨rfl, ⟨nd, rfl⟩⟩
              refine ⟨_, rfl, ?_⟩
              refine hK.out _ _ ⟨(blk_cell BK122.out 0).trans rfl, (blk_cell BK122.out 1).trans rfl, (blk_cell BK122.out 2).trans rfl⟩ (fun hHeld => ?_)
              clear hK K
              refine n_ 40 ?_
              refine p_ 3 41 HT_ ?_
              refine p_ 4 42 HT_ ?_
              refine p_ 5 43 HT_ ?_
              refine p_ 6 44 HT_ ?_
              refine p_ 7 45 HT_ ?_
              refine q_ 8 46 HT_ ?_
              refine q_ 9 47 HT_ ?_
              refine q_ 10 48 HT_ ?_
              refine q_ 11 49 HT_ ?_
              refine q_ 12 50 HT_ ?_
              refine q_ 13 51 HT_ ?_
              refine q_ 14 52 HT_ ?_
              refine q_ 15 53 HT_ ?_
              refine q_ 16 54 HT_ ?_
              refine q_ 17 55 HT_ ?_
              refine p_ 18 56 HT_ ?_
              refine p_ 19 57 HT_ ?_
              refine p_ 20 58 HT_ ?_
              refine p_ 21 59 HT_ ?_
              refine t_ 22 60 HT_ HW_ rfl rfl hHeld (by rintro w' ⟨s0, s1, s2⟩; go_simp; with_reducible rfl) ?_
              refine o_ 23 61 HT_ (fun K hK => ?_)
              refine goes_ Tryd.func38 (by kernel_rfl) rfl #[.int .i64 ((rd_T54 l0_2 x33_2).f1), .int .i64 0] (by rfl) rfl rfl (by (try simp only [List.map_toArray, List.map_cons, List.map_nil]); first | done | rfl | (simp only [List.length_drop, List.length_take]; rfl)) ?_
              with_reducible refine (prepaid_within.calls ((rd_T54 l0_2 x33_2).f1) 0 true _ A56.out).mono ?_
              rintro e w' ⟨rfl, ⟨nd, rfl⟩⟩
              refine ⟨_, rfl, ?_⟩
              refine hK.out _ _ ⟨(blk_cell BK122.out 0).trans rfl, (blk_cell BK122.out 1).trans rfl, (blk_cell BK122.out 2).trans rfl⟩ (fun hHeld => ?_)
              clear hK K
              refine n_ 61 ?_
              refine p_ 24 62 HT_ ?_
              refine p_ 25 63 HT_ ?_
              refine p_ 26 64 HT_ ?_
              refine p_ 27 65 HT_ ?_
              refine t_ 28 66 HT_ HW_ rfl rfl hHeld (by rintro w' ⟨s0, s1, s2⟩; go_simp; with_reducible rfl) ?_
              refine o_ 29 67 HT_ (fun K hK => ?_)
              refine goes_ Tryd.func38 (by kernel_rfl) rfl #[.int .i64 ((rd_T54 l0_2 x33_2).f2), .int .i64 0] (by rfl) rfl rfl (by (try simp only [List.map_toArray, List.map_cons, List.map_nil]); first | done | rfl | (simp only [List.length_drop, List.length_take]; rfl)) ?_
              with_reducible refine (prepaid_within.calls ((rd_T54 l0_2 x33_2).f2) 0 true _ A58.out).mono ?_
              rintro e w' ⟨rfl, ⟨nd, rfl⟩⟩
              refine ⟨_, rfl, ?_⟩
              refine hK.out _ _ ⟨(blk_cell BK122.out 0).trans rfl, (blk_cell BK122.out 1).trans rfl, (blk_cell BK122.out 2).trans rfl⟩ (fun hHeld => ?_)
              clear hK K
              refine n_ 67 ?_
              refine p_ 30 68 HT_ ?_
              refine p_ 31 69 HT_ ?_
              refine done_ (done_of HT_.out (by kernel_rfl)) ?_
              try go_wp2
              go_roundg k2
              case measure => have := HJ4.out; have := HK2.out; omega
              case rel => exact ⟨(wrap64 (x33_2 + 1)), (by first | rfl | (simp; done) | (simp [*]; done)), H', ⟨by have := HJ4.out; have := HK2.out; omega⟩, ⟨kb BK117⟩, ⟨lb2 HB GE117 GE122⟩⟩
             ·replace c59 := Bool.eq_false_iff.mpr c59
              subst c59
              have H1 : (some 1) = some r := by rw [if_neg (show ¬ (false = true) by decide)] at H; exact H
              clear H
              have H := H1
              clear H1
              obtain rfl := Option.some.inj H
              have p121 : 0 ≤ (x33_2 : Int) := of_decide_eq_true (by first | (with_reducible assumption) | assumption)
              have q121 : x33_2 < (l0_2.length : Int) := of_decide_eq_true (by first | (with_reducible assumption) | assumption)
              obtain ⟨ad121, e121, hx121_0, hx121_1, hx121_2⟩ := at_T54 HR0_2.out x33_2 p121 q121
              cases e121
              replace hx121_0 := (HB.out.cell (World.block_lt_of_cell? w _ hx121_0)).trans hx121_0
              replace hx121_1 := (HB.out.cell (World.block_lt_of_cell? w _ hx121_1)).trans hx121_1
              replace hx121_2 := (HB.out.cell (World.block_lt_of_cell? w _ hx121_2)).trans hx121_2
              replace p121 := eq_true p121
              replace q121 := eq_true q121
              try go_wp2_with (first | ((with_reducible refine gate_dst (N := 4) rfl ?_); (try (refine gate_guard (by rfl) ?_; dsimp only)); refine box_event ?hg (N := 4) ?hd (cs := #[.int .i64 0, .int .i64 0, .int .i64 0]) (t := 54) ?hr ?_; (case hd => rfl); (case hg => rfl); (case hr => first | (go_simp; done) | (go_simp; rfl)); intro gb122 hg w65 hbox hb; have n0_ := kl BK117 hb; have n1_ := ls1 HB GE117 hb; have n2_ := Aside0.mk (hbox); have n3_ := Aside0.mk ((by rw [hg]; exact (below_size (lb1 HB GE117)) : w.heap.size ≤ gb122)); have n4_ := Aside0.mk ((by rw [hg]; exact (below_size (lb1 HB GE117)) : w.heap.size ≤ gb122)); have n5_ := kn BK117 hg; have n6_ := km BK117 hg; clear BK117; clear HB; have BK117 := n0_; have HB := n1_; have BK122 := n2_; have GW122 := n3_; have GE122 := n4_; have NB117_122 := n5_; have NB122_117 := n6_; clear n0_ n1_ n2_ n3_ n4_ n5_ n6_; clear hb hbox hg; have hnb66 := NB122_117.out; have hnc66 := NB117_122.out; have hcz67_0 := bc BK122 0; have hcz67_1 := bc BK122 1; have hcz67_2 := bc BK122 2; have hfz67_0 := blk_frozen BK122.out 0; have hfz67_1 := blk_frozen BK122.out 1; have hfz67_2 := blk_frozen BK122.out 2))
              have n0_ : Aside0 ((((w65.setCell ⟨gb122, 0, none⟩ (.int .i64 ((rd_T54 l0_2 x33_2).f0))).setCell ⟨gb122, 1, none⟩ (.int .i64 ((rd_T54 l0_2 x33_2).f1))).setCell ⟨gb122, 2, none⟩ (.int .i64 ((rd_T54 l0_2 x33_2).f2))).heap[gb117]? = some (.cells #[.string a0_0, .int .i64 a0_1, .slice (some ad121) l0_2.length c0_2] 31 (0, 0))) := ⟨kf1 BK117 NB117_122⟩
              have n1_ : Aside0 ((((w65.setCell ⟨gb122, 0, none⟩ (.int .i64 ((rd_T54 l0_2 x33_2).f0))).setCell ⟨gb122, 1, none⟩ (.int .i64 ((rd_T54 l0_2 x33_2).f1))).setCell ⟨gb122, 2, none⟩ (.int .i64 ((rd_T54 l0_2 x33_2).f2))).heap[gb122]? = some (.cells #[.int .i64 ((rd_T54 l0_2 x33_2).f0), .int .i64 ((rd_T54 l0_2 x33_2).f1), .int .i64 ((rd_T54 l0_2 x33_2).f2)] 54 (0, 0))) := ⟨by (with_reducible repeat (first | refine blk_drewN ?_ _ | refine blk_drew ?_ | refine blk_alloc ?_ _)); refine blk_put (cs := #[.int .i64 ((rd_T54 l0_2 x33_2).f0), .int .i64 ((rd_T54 l0_2 x33_2).f1), .int .i64 0]) ?_ 2 _ rfl; (with_reducible repeat (first | refine blk_drewN ?_ _ | refine blk_drew ?_ | refine blk_alloc ?_ _)); refine blk_put (cs := #[.int .i64 ((rd_T54 l0_2 x33_2).f0), .int .i64 0, .int .i64 0]) ?_ 1 _ rfl; (with_reducible repeat (first | refine blk_drewN ?_ _ | refine blk_drew ?_ | refine blk_alloc ?_ _)); refine blk_put (cs := #[.int .i64 0, .int .i64 0, .int .i64 0]) ?_ 0 _ rfl; (with_reducible repeat (first | refine blk_drewN ?_ _ | refine blk_drew ?_ | refine blk_alloc ?_ _)); exact BK122.out⟩
              have n2_ : Aside0 (Below w.heap.size w (((w65.setCell ⟨gb122, 0, none⟩ (.int .i64 ((rd_T54 l0_2 x33_2).f0))).setCell ⟨gb122, 1, none⟩ (.int .i64 ((rd_T54 l0_2 x33_2).f1))).setCell ⟨gb122, 2, none⟩ (.int .i64 ((rd_T54 l0_2 x33_2).f2)))) := ⟨lb2 HB GE117 GE122⟩
              (try clear BK117)
              (try clear BK122)
              (try clear HB)
              generalize (((w65.setCell ⟨gb122, 0, none⟩ (.int .i64 ((rd_T54 l0_2 x33_2).f0))).setCell ⟨gb122, 1, none⟩ (.int .i64 ((rd_T54 l0_2 x33_2).f1))).setCell ⟨gb122, 2, none⟩ (.int .i64 ((rd_T54 l0_2 x33_2).f2))) = w68 at n0_ n1_ n2_ ⊢
              have BK117 := n0_
              have BK122 := n1_
              have HB := n2_
              clear n0_ n1_ n2_
              have n0_ := Aside0.mk (blk_drew BK117.out)
              have n1_ := Aside0.mk (blk_drew BK122.out)
              have n2_ := Aside0.mk (below_drew1 HB.out)
              clear BK117
              clear BK122
              clear HB
              have BK117 := n0_
              have BK122 := n1_
              have HB := n2_
              clear n0_ n1_ n2_
              refine start_ (n := 32) (S := fun w' => w'.cell? ⟨gb122, 0, none⟩ = some (.int .i64 ((rd_T54 l0_2 x33_2).f0)) ∧ w'.cell? ⟨gb122, 1, none⟩ = some (.int .i64 ((rd_T54 l0_2 x33_2).f1)) ∧ w'.cell? ⟨gb122, 2, none⟩ = some (.int .i64 ((rd_T54 l0_2 x33_2).f2))) (ds := []) #[false, false, false, false, false, false, false, false, false, false, false, false, false, false, false, false, false, false, false, false, false, false, false, false, false, false, false, false, false, false, false, false] (by kernel_rfl) rfl rfl ⟨(blk_cell BK122.out 0).trans rfl, (blk_cell BK122.out 1).trans rfl, (blk_cell BK122.out 2).trans rfl⟩ (fun hHeld => ?_); refine with_tabW prepaid_Check.tab8 prepaid_Check.bits8 (fun HT_ HW_ => ?_)
              generalize w68.drew = w69 at BK117 BK122 HB hHeld ⊢
              refine p_ 0 38 HT_ ?_
              refine t_ 1 39 HT_ HW_ rfl rfl hHeld (by rintro w' ⟨s0, s1, s2⟩; go_simp; with_reducible rfl) ?_
              refine o_ 2 40 HT_ (fun K hK => ?_)
              refine goes_ Tryd.func38 (by kernel_rfl) rfl #[.int .i64 ((rd_T54 l0_2 x33_2).f0), .int .i64 1] (by rfl) rfl rfl (by (try simp only [List.map_toArray, List.map_cons, List.map_nil]); first | done | rfl | (simp only [List.length_drop, List.length_take]; rfl)) ?_
              with_reducible refine (prepaid_within.calls ((rd_T54 l0_2 x33_2).f0) 1 true _ A25.out).mono ?_
              rintro e w' ⟨rfl, ⟨nd, rfl⟩⟩
              refine ⟨_, rfl, ?_⟩
              refine hK.out _ _ ⟨(blk_cell BK122.out 0).trans rfl, (blk_cell BK122.out 1).trans rfl, (blk_cell BK122.out 2).trans rfl⟩ (fun hHeld => ?_)
              clear hK K
              refine n_ 40 ?_
              refine p_ 3 41 HT_ ?_
              refine p_ 4 42 HT_ ?_
              refine p_ 5 43 HT_ ?_
              refine p_ 6 44 HT_ ?_
              refine p_ 7 45 HT_ ?_
              refine q_ 8 46 HT_ ?_
              refine q_ 9 47 HT_ ?_
              refine q_ 10 48 HT_ ?_
              refine q_ 11 49 HT_ ?_
              refine q_ 12 50 HT_ ?_
              refine q_ 13 51 HT_ ?_
              refine q_ 14 52 HT_ ?_
              refine q_ 15 53 HT_ ?_
              refine q_ 16 54 HT_ ?_
              refine q_ 17 55 HT_ ?_
              refine p_ 18 56 HT_ ?_
              refine p_ 19 57 HT_ ?_
              refine p_ 20 58 HT_ ?_
              refine p_ 21 59 HT_ ?_
              refine t_ 22 60 HT_ HW_ rfl rfl hHeld (by rintro w' ⟨s0, s1, s2⟩; go_simp; with_reducible rfl) ?_
              refine o_ 23 61 HT_ (fun K hK => ?_)
              refine goes_ Tryd.func38 (by kernel_rfl) rfl #[.int .i64 ((rd_T54 l0_2 x33_2).f1), .int .i64 0] (by rfl) rfl rfl (by (try simp only [List.map_toArray, List.map_cons, List.map_nil]); first | done | rfl | (simp only [List.length_drop, List.length_take]; rfl)) ?_
              with_reducible refine (prepaid_within.calls ((rd_T54 l0_2 x33_2).f1) 0 true _ A56.out).mono ?_
              rintro e w' ⟨rfl, ⟨nd, rfl⟩⟩
              refine ⟨_, rfl, ?_⟩
              refine hK.out _ _ ⟨(blk_cell BK122.out 0).trans rfl, (blk_cell BK122.out 1).trans rfl, (blk_cell BK122.out 2).trans rfl⟩ (fun hHeld => ?_)
              clear hK K
              refine n_ 61 ?_
              refine p_ 24 62 HT_ ?_
              refine p_ 25 63 HT_ ?_
              refine p_ 26 64 HT_ ?_
              refine p_ 27 65 HT_ ?_
              refine t_ 28 66 HT_ HW_ rfl rfl hHeld (by rintro w' ⟨s0, s1, s2⟩; go_simp; with_reducible rfl) ?_
              refine o_ 29 67 HT_ (fun K hK => ?_)
              refine goes_ Tryd.func38 (by kernel_rfl) rfl #[.int .i64 ((rd_T54 l0_2 x33_2).f2), .int .i64 0] (by rfl) rfl rfl (by (try simp only [List.map_toArray, List.map_cons, List.map_nil]); first | done | rfl | (simp only [List.length_drop, List.length_take]; rfl)) ?_
              with_reducible refine (prepaid_within.calls ((rd_T54 l0_2 x33_2).f2) 0 false _ A58.out).mono ?_
              rintro e w' ⟨rfl, ⟨nd, rfl⟩⟩
              refine ⟨_, rfl, ?_⟩
              refine hK.out _ _ ⟨(blk_cell BK122.out 0).trans rfl, (blk_cell BK122.out 1).trans rfl, (blk_cell BK122.out 2).trans rfl⟩ (fun hHeld => ?_)
              clear hK K
              refine n_ 67 ?_
              refine p_ 30 68 HT_ ?_
              refine p_ 31 69 HT_ ?_
              refine done_ (done_of HT_.out (by kernel_rfl)) ?_
              try go_wp2
              go_ret
              exact ⟨by first | rfl | (simp [errW_none, errW_some] <;> rfl) | (simp [*, errW_none, errW_some] <;> rfl), lb2 HB GE117 GE122⟩
            ·replace c57 := Bool.eq_false_iff.mpr c57
             subst c57
             have H1 : (some 1) = some r := by rw [if_neg (show ¬ (false = true) by decide)] at H; exact H
             clear H
             have H := H1
             clear H1
             obtain rfl := Option.some.inj H
             have p121 : 0 ≤ (x33_2 : Int) := of_decide_eq_true (by first | (with_reducible assumption) | assumption)
             have q121 : x33_2 < (l0_2.length : Int) := of_decide_eq_true (by first | (with_reducible assumption) | assumption)
             obtain ⟨ad121, e121, hx121_0, hx121_1, hx121_2⟩ := at_T54 HR0_2.out x33_2 p121 q121
             cases e121
             replace hx121_0 := (HB.out.cell (World.block_lt_of_cell? w _ hx121_0)).trans hx121_0
             replace hx121_1 := (HB.out.cell (World.block_lt_of_cell? w _ hx121_1)).trans hx121_1
             replace hx121_2 := (HB.out.cell (World.block_lt_of_cell? w _ hx121_2)).trans hx121_2
             replace p121 := eq_true p121
             replace q121 := eq_true q121
             try go_wp2_with (first | ((with_reducible refine gate_dst (N := 4) rfl ?_); (try (refine gate_guard (by rfl) ?_; dsimp only)); refine box_event ?hg (N := 4) ?hd (cs := #[.int .i64 0, .int .i64 0, .int .i64 0]) (t := 54) ?hr ?_; (case hd => rfl); (case hg => rfl); (case hr => first | (go_simp; done) | (go_simp; rfl)); intro gb122 hg w70 hbox hb; have n0_ := kl BK117 hb; have n1_ := ls1 HB GE117 hb; have n2_ := Aside0.mk (hbox); have n3_ := Aside0.mk ((by rw [hg]; exact (below_size (lb1 HB GE117)) : w.heap.size ≤ gb122)); have n4_ := Aside0.mk ((by rw [hg]; exact (below_size (lb1 HB GE117)) : w.heap.size ≤ gb122)); have n5_ := kn BK117 hg; have n6_ := km BK117 hg; clear BK117; clear HB; have BK117 := n0_; have HB := n1_; have BK122 := n2_; have GW122 := n3_; have GE122 := n4_; have NB117_122 := n5_; have NB122_117 := n6_; clear n0_ n1_ n2_ n3_ n4_ n5_ n6_; clear hb hbox hg; have hnb71 := NB122_117.out; have hnc71 := NB117_122.out; have hcz72_0 := bc BK122 0; have hcz72_1 := bc BK122 1; have hcz72_2 := bc BK122 2; have hfz72_0 := blk_frozen BK122.out 0; have hfz72_1 := blk_frozen BK122.out 1; have hfz72_2 := blk_frozen BK122.out 2))
             have n0_ : Aside0 ((((w70.setCell ⟨gb122, 0, none⟩ (.int .i64 ((rd_T54 l0_2 x33_2).f0))).setCell ⟨gb122, 1, none⟩ (.int .i64 ((rd_T54 l0_2 x33_2).f1))).setCell ⟨gb122, 2, none⟩ (.int .i64 ((rd_T54 l0_2 x33_2).f2))).heap[gb117]? = some (.cells #[.string a0_0, .int .i64 a0_1, .slice (some ad121) l0_2.length c0_2] 31 (0, 0))) := ⟨kf1 BK117 NB117_122⟩
             have n1_ : Aside0 ((((w70.setCell ⟨gb122, 0, none⟩ (.int .i64 ((rd_T54 l0_2 x33_2).f0))).setCell ⟨gb122, 1, none⟩ (.int .i64 ((rd_T54 l0_2 x33_2).f1))).setCell ⟨gb122, 2, none⟩ (.int .i64 ((rd_T54 l0_2 x33_2).f2))).heap[gb122]? = some (.cells #[.int .i64 ((rd_T54 l0_2 x33_2).f0), .int .i64 ((rd_T54 l0_2 x33_2).f1), .int .i64 ((rd_T54 l0_2 x33_2).f2)] 54 (0, 0))) := ⟨by (with_reducible repeat (first | refine blk_drewN ?_ _ | refine blk_drew ?_ | refine blk_alloc ?_ _)); refine blk_put (cs := #[.int .i64 ((rd_T54 l0_2 x33_2).f0), .int .i64 ((rd_T54 l0_2 x33_2).f1), .int .i64 0]) ?_ 2 _ rfl; (with_reducible repeat (first | refine blk_drewN ?_ _ | refine blk_drew ?_ | refine blk_alloc ?_ _)); refine blk_put (cs := #[.int .i64 ((rd_T54 l0_2 x33_2).f0), .int .i64 0, .int .i64 0]) ?_ 1 _ rfl; (with_reducible repeat (first | refine blk_drewN ?_ _ | refine blk_drew ?_ | refine blk_alloc ?_ _)); refine blk_put (cs := #[.int .i64 0, .int .i64 0, .int .i64 0]) ?_ 0 _ rfl; (with_reducible repeat (first | refine blk_drewN ?_ _ | refine blk_drew ?_ | refine blk_alloc ?_ _)); exact BK122.out⟩
             have n2_ : Aside0 (Below w.heap.size w (((w70.setCell ⟨gb122, 0, none⟩ (.int .i64 ((rd_T54 l0_2 x33_2).f0))).setCell ⟨gb122, 1, none⟩ (.int .i64 ((rd_T54 l0_2 x33_2).f1))).setCell ⟨gb122, 2, none⟩ (.int .i64 ((rd_T54 l0_2 x33_2).f2)))) := ⟨lb2 HB GE117 GE122⟩
             (try clear BK117)
             (try clear BK122)
             (try clear HB)
             generalize (((w70.setCell ⟨gb122, 0, none⟩ (.int .i64 ((rd_T54 l0_2 x33_2).f0))).setCell ⟨gb122, 1, none⟩ (.int .i64 ((rd_T54 l0_2 x33_2).f1))).setCell ⟨gb122, 2, none⟩ (.int .i64 ((rd_T54 l0_2 x33_2).f2))) = w73 at n0_ n1_ n2_ ⊢
             have BK117 := n0_
             have BK122 := n1_
             have HB := n2_
             clear n0_ n1_ n2_
             have n0_ := Aside0.mk (blk_drew BK117.out)
             have n1_ := Aside0.mk (blk_drew BK122.out)
             have n2_ := Aside0.mk (below_drew1 HB.out)
             clear BK117
             clear BK122
             clear HB
             have BK117 := n0_
             have BK122 := n1_
             have HB := n2_
             clear n0_ n1_ n2_
             refine start_ (n := 32) (S := fun w' => w'.cell? ⟨gb122, 0, none⟩ = some (.int .i64 ((rd_T54 l0_2 x33_2).f0)) ∧ w'.cell? ⟨gb122, 1, none⟩ = some (.int .i64 ((rd_T54 l0_2 x33_2).f1)) ∧ w'.cell? ⟨gb122, 2, none⟩ = some (.int .i64 ((rd_T54 l0_2 x33_2).f2))) (ds := []) #[false, false, false, false, false, false, false, false, false, false, false, false, false, false, false, false, false, false, false, false, false, false, false, false, false, false, false, false, false, false, false, false] (by kernel_rfl) rfl rfl ⟨(blk_cell BK122.out 0).trans rfl, (blk_cell BK122.out 1).trans rfl, (blk_cell BK122.out 2).trans rfl⟩ (fun hHeld => ?_); refine with_tabW prepaid_Check.tab8 prepaid_Check.bits8 (fun HT_ HW_ => ?_)
             generalize w73.drew = w74 at BK117 BK122 HB hHeld ⊢
             refine p_ 0 38 HT_ ?_
             refine t_ 1 39 HT_ HW_ rfl rfl hHeld (by rintro w' ⟨s0, s1, s2⟩; go_simp; with_reducible rfl) ?_
             refine o_ 2 40 HT_ (fun K hK => ?_)
             refine goes_ Tryd.func38 (by kernel_rfl) rfl #[.int .i64 ((rd_T54 l0_2 x33_2).f0), .int .i64 1] (by rfl) rfl rfl (by (try simp only [List.map_toArray, List.map_cons, List.map_nil]); first | done | rfl | (simp only [List.length_drop, List.length_take]; rfl)) ?_
             with_reducible refine (prepaid_within.calls ((rd_T54 l0_2 x33_2).f0) 1 true _ A25.out).mono ?_
             rintro e w' ⟨rfl, ⟨nd, rfl⟩⟩
             refine ⟨_, rfl, ?_⟩
             refine hK.out _ _ ⟨(blk_cell BK122.out 0).trans rfl, (blk_cell BK122.out 1).trans rfl, (blk_cell BK122.out 2).trans rfl⟩ (fun hHeld => ?_)
             clear hK K
             refine n_ 40 ?_
             refine p_ 3 41 HT_ ?_
             refine p_ 4 42 HT_ ?_
             refine p_ 5 43 HT_ ?_
             refine p_ 6 44 HT_ ?_
             refine p_ 7 45 HT_ ?_
             refine q_ 8 46 HT_ ?_
             refine q_ 9 47 HT_ ?_
             refine q_ 10 48 HT_ ?_
             refine q_ 11 49 HT_ ?_
             refine q_ 12 50 HT_ ?_
             refine q_ 13 51 HT_ ?_
             refine q_ 14 52 HT_ ?_
             refine q_ 15 53 HT_ ?_
             refine q_ 16 54 HT_ ?_
             refine q_ 17 55 HT_ ?_
             refine p_ 18 56 HT_ ?_
             refine p_ 19 57 HT_ ?_
             refine p_ 20 58 HT_ ?_
             refine p_ 21 59 HT_ ?_
             refine t_ 22 60 HT_ HW_ rfl rfl hHeld (by rintro w' ⟨s0, s1, s2⟩; go_simp; with_reducible rfl) ?_
             refine o_ 23 61 HT_ (fun K hK => ?_)
             refine goes_ Tryd.func38 (by kernel_rfl) rfl #[.int .i64 ((rd_T54 l0_2 x33_2).f1), .int .i64 0] (by rfl) rfl rfl (by (try simp only [List.map_toArray, List.map_cons, List.map_nil]); first | done | rfl | (simp only [List.length_drop, List.length_take]; rfl)) ?_
             with_reducible refine (prepaid_within.calls ((rd_T54 l0_2 x33_2).f1) 0 false _ A56.out).mono ?_
             rintro e w' ⟨rfl, ⟨nd, rfl⟩⟩
             refine ⟨_, rfl, ?_⟩
             refine hK.out _ _ ⟨(blk_cell BK122.out 0).trans rfl, (blk_cell BK122.out 1).trans rfl, (blk_cell BK122.out 2).trans rfl⟩ (fun hHeld => ?_)
             clear hK K
             refine n_ 61 ?_
             refine p_ 24 62 HT_ ?_
             refine p_ 25 63 HT_ ?_
             refine p_ 26 64 HT_ ?_
             refine q_ 27 65 HT_ ?_
             refine q_ 28 66 HT_ ?_
             refine q_ 29 67 HT_ ?_
             refine q_ 30 68 HT_ ?_
             refine p_ 31 69 HT_ ?_
             refine done_ (done_of HT_.out (by kernel_rfl)) ?_
             try go_wp2
             go_ret
             exact ⟨by first | rfl | (simp [errW_none, errW_some] <;> rfl) | (simp [*, errW_none, errW_some] <;> rfl), lb2 HB GE117 GE122⟩
          ·replace c26 := Bool.eq_false_iff.mpr c26
           subst c26
           have H1 : (some 1) = some r := by rw [if_neg (show ¬ (false = true) by decide)] at H; exact H
           clear H
           have H := H1
           clear H1
           obtain rfl := Option.some.inj H
           have p121 : 0 ≤ (x33_2 : Int) := of_decide_eq_true (by first | (with_reducible assumption) | assumption)
           have q121 : x33_2 < (l0_2.length : Int) := of_decide_eq_true (by first | (with_reducible assumption) | assumption)
           obtain ⟨ad121, e121, hx121_0, hx121_1, hx121_2⟩ := at_T54 HR0_2.out x33_2 p121 q121
           cases e121
           replace hx121_0 := (HB.out.cell (World.block_lt_of_cell? w _ hx121_0)).trans hx121_0
           replace hx121_1 := (HB.out.cell (World.block_lt_of_cell? w _ hx121_1)).trans hx121_1
           replace hx121_2 := (HB.out.cell (World.block_lt_of_cell? w _ hx121_2)).trans hx121_2
           replace p121 := eq_true p121
           replace q121 := eq_true q121
           try go_wp2_with (first | ((with_reducible refine gate_dst (N := 4) rfl ?_); (try (refine gate_guard (by rfl) ?_; dsimp only)); refine box_event ?hg (N := 4) ?hd (cs := #[.int .i64 0, .int .i64 0, .int .i64 0]) (t := 54) ?hr ?_; (case hd => rfl); (case hg => rfl); (case hr => first | (go_simp; done) | (go_simp; rfl)); intro gb122 hg w75 hbox hb; have n0_ := kl BK117 hb; have n1_ := ls1 HB GE117 hb; have n2_ := Aside0.mk (hbox); have n3_ := Aside0.mk ((by rw [hg]; exact (below_size (lb1 HB GE117)) : w.heap.size ≤ gb122)); have n4_ := Aside0.mk ((by rw [hg]; exact (below_size (lb1 HB GE117)) : w.heap.size ≤ gb122)); have n5_ := kn BK117 hg; have n6_ := km BK117 hg; clear BK117; clear HB; have BK117 := n0_; have HB := n1_; have BK122 := n2_; have GW122 := n3_; have GE122 := n4_; have NB117_122 := n5_; have NB122_117 := n6_; clear n0_ n1_ n2_ n3_ n4_ n5_ n6_; clear hb hbox hg; have hnb76 := NB122_117.out; have hnc76 := NB117_122.out; have hcz77_0 := bc BK122 0; have hcz77_1 := bc BK122 1; have hcz77_2 := bc BK122 2; have hfz77_0 := blk_frozen BK122.out 0; have hfz77_1 := blk_frozen BK122.out 1; have hfz77_2 := blk_frozen BK122.out 2))
           have n0_ : Aside0 ((((w75.setCell ⟨gb122, 0, none⟩ (.int .i64 ((rd_T54 l0_2 x33_2).f0))).setCell ⟨gb122, 1, none⟩ (.int .i64 ((rd_T54 l0_2 x33_2).f1))).setCell ⟨gb122, 2, none⟩ (.int .i64 ((rd_T54 l0_2 x33_2).f2))).heap[gb117]? = some (.cells #[.string a0_0, .int .i64 a0_1, .slice (some ad121) l0_2.length c0_2] 31 (0, 0))) := ⟨kf1 BK117 NB117_122⟩
           have n1_ : Aside0 ((((w75.setCell ⟨gb122, 0, none⟩ (.int .i64 ((rd_T54 l0_2 x33_2).f0))).setCell ⟨gb122, 1, none⟩ (.int .i64 ((rd_T54 l0_2 x33_2).f1))).setCell ⟨gb122, 2, none⟩ (.int .i64 ((rd_T54 l0_2 x33_2).f2))).heap[gb122]? = some (.cells #[.int .i64 ((rd_T54 l0_2 x33_2).f0), .int .i64 ((rd_T54 l0_2 x33_2).f1), .int .i64 ((rd_T54 l0_2 x33_2).f2)] 54 (0, 0))) := ⟨by (with_reducible repeat (first | refine blk_drewN ?_ _ | refine blk_drew ?_ | refine blk_alloc ?_ _)); refine blk_put (cs := #[.int .i64 ((rd_T54 l0_2 x33_2).f0), .int .i64 ((rd_T54 l0_2 x33_2).f1), .int .i64 0]) ?_ 2 _ rfl; (with_reducible repeat (first | refine blk_drewN ?_ _ | refine blk_drew ?_ | refine blk_alloc ?_ _)); refine blk_put (cs := #[.int .i64 ((rd_T54 l0_2 x33_2).f0), .int .i64 0, .int .i64 0]) ?_ 1 _ rfl; (with_reducible repeat (first | refine blk_drewN ?_ _ | refine blk_drew ?_ | refine blk_alloc ?_ _)); refine blk_put (cs := #[.int .i64 0, .int .i64 0, .int .i64 0]) ?_ 0 _ rfl; (with_reducible repeat (first | refine blk_drewN ?_ _ | refine blk_drew ?_ | refine blk_alloc ?_ _)); exact BK122.out⟩
           have n2_ : Aside0 (Below w.heap.size w (((w75.setCell ⟨gb122, 0, none⟩ (.int .i64 ((rd_T54 l0_2 x33_2).f0))).setCell ⟨gb122, 1, none⟩ (.int .i64 ((rd_T54 l0_2 x33_2).f1))).setCell ⟨gb122, 2, none⟩ (.int .i64 ((rd_T54 l0_2 x33_2).f2)))) := ⟨lb2 HB GE117 GE122⟩
           (try clear BK117)
           (try clear BK122)
           (try clear HB)
           generalize (((w75.setCell ⟨gb122, 0, none⟩ (.int .i64 ((rd_T54 l0_2 x33_2).f0))).setCell ⟨gb122, 1, none⟩ (.int .i64 ((rd_T54 l0_2 x33_2).f1))).setCell ⟨gb122, 2, none⟩ (.int .i64 ((rd_T54 l0_2 x33_2).f2))) = w78 at n0_ n1_ n2_ ⊢
           have BK117 := n0_
           have BK122 := n1_
           have HB := n2_
           clear n0_ n1_ n2_
           have n0_ := Aside0.mk (blk_drew BK117.out)
           have n1_ := Aside0.mk (blk_drew BK122.out)
           have n2_ := Aside0.mk (below_drew1 HB.out)
           clear BK117
           clear BK122
           clear HB
           have BK117 := n0_
           have BK122 := n1_
           have HB := n2_
           clear n0_ n1_ n2_
           refine start_ (n := 32) (S := fun w' => w'.cell? ⟨gb122, 0, none⟩ = some (.int .i64 ((rd_T54 l0_2 x33_2).f0)) ∧ w'.cell? ⟨gb122, 1, none⟩ = some (.int .i64 ((rd_T54 l0_2 x33_2).f1)) ∧ w'.cell? ⟨gb122, 2, none⟩ = some (.int .i64 ((rd_T54 l0_2 x33_2).f2))) (ds := []) #[false, false, false, false, false, false, false, false, false, false, false, false, false, false, false, false, false, false, false, false, false, false, false, false, false, false, false, false, false, false, false, false] (by kernel_rfl) rfl rfl ⟨(blk_cell BK122.out 0).trans rfl, (blk_cell BK122.out 1).trans rfl, (blk_cell BK122.out 2).trans rfl⟩ (fun hHeld => ?_); refine with_tabW prepaid_Check.tab8 prepaid_Check.bits8 (fun HT_ HW_ => ?_)
           generalize w78.drew = w79 at BK117 BK122 HB hHeld ⊢
           refine p_ 0 38 HT_ ?_
           refine t_ 1 39 HT_ HW_ rfl rfl hHeld (by rintro w' ⟨s0, s1, s2⟩; go_simp; with_reducible rfl) ?_
           refine o_ 2 40 HT_ (fun K hK => ?_)
           refine goes_ Tryd.func38 (by kernel_rfl) rfl #[.int .i64 ((rd_T54 l0_2 x33_2).f0), .int .i64 1] (by rfl) rfl rfl (by (try simp only [List.map_toArray, List.map_cons, List.map_nil]); first | done | rfl | (simp only [List.length_drop, List.length_take]; rfl)) ?_
           with_reducible refine (prepaid_within.calls ((rd_T54 l0_2 x33_2).f0) 1 false _ A25.out).mono ?_
           rintro e w' ⟨rfl, ⟨nd, rfl⟩⟩
           refine ⟨_, rfl, ?_⟩
           refine hK.out _ _ ⟨(blk_cell BK122.out 0).trans rfl, (blk_cell BK122.out 1).trans rfl, (blk_cell BK122.out 2).trans rfl⟩ (fun hHeld => ?_)
           clear hK K
           refine n_ 40 ?_
           refine p_ 3 41 HT_ ?_
           refine p_ 4 42 HT_ ?_
           refine q_ 5 43 HT_ ?_
           refine q_ 6 44 HT_ ?_
           refine q_ 7 45 HT_ ?_
           refine q_ 8 46 HT_ ?_
           refine q_ 9 47 HT_ ?_
           refine q_ 10 48 HT_ ?_
           refine q_ 11 49 HT_ ?_
           refine q_ 12 50 HT_ ?_
           refine q_ 13 51 HT_ ?_
           refine q_ 14 52 HT_ ?_
           refine q_ 15 53 HT_ ?_
           refine q_ 16 54 HT_ ?_
           refine q_ 17 55 HT_ ?_
           refine q_ 18 56 HT_ ?_
           refine p_ 19 57 HT_ ?_
           refine p_ 20 58 HT_ ?_
           refine q_ 21 59 HT_ ?_
           refine q_ 22 60 HT_ ?_
           refine q_ 23 61 HT_ ?_
           refine q_ 24 62 HT_ ?_
           refine p_ 25 63 HT_ ?_
           refine p_ 26 64 HT_ ?_
           refine q_ 27 65 HT_ ?_
           refine q_ 28 66 HT_ ?_
           refine q_ 29 67 HT_ ?_
           refine q_ 30 68 HT_ ?_
           refine p_ 31 69 HT_ ?_
           refine done_ (done_of HT_.out (by kernel_rfl)) ?_
           try go_wp2
           go_ret
           exact ⟨by first | rfl | (simp [errW_none, errW_some] <;> rfl) | (simp [*, errW_none, errW_some] <;> rfl), lb2 HB GE117 GE122⟩
         ·rw [if_neg c24] at H
          exact absurd H (by simp)
        ·rw [if_neg c23] at H
         exact absurd H (by simp)
       ·rw [if_neg c22] at H
        have c22b0 : decide (x33_2 < (l0_2.length : Int)) = false := decide_eq_false c22
        clear c22
        replace H := Option.bind_eq_some_iff.mp H
        obtain ⟨t120, A800, H⟩ := H
        replace H : (if t120 > 1099511627776 then (some 1) else (some 0)) = some r := H
        have A80 := Aside0.mk A800
        clear A800
        by_cases c81 : t120 > 1099511627776
        ·rw [if_pos c81] at H
         have c81b0 : decide (1099511627776 < t120) = true := decide_eq_true c81
         clear c81
         obtain rfl := Option.some.inj H
         have hcz82_0 := bc BK117 0
         have hcz82_1 := bc BK117 1
         have hcz82_2 := bc BK117 2
         have hfz82_0 := blk_frozen BK117.out 0
         have hfz82_1 := blk_frozen BK117.out 1
         have hfz82_2 := blk_frozen BK117.out 2
         go_wp2_with (first | ((with_reducible refine gate_callee (f := 31) rfl ?_); refine goesL_ (some 72) rfl rfl Tryd.func31 (by kernel_rfl) rfl #[.agg #[.string a0_0, .int .i64 a0_1, .slice A0_2 l0_2.length c0_2]] rfl (by (try simp only [List.map_toArray, List.map_cons, List.map_nil]); first | done | rfl | (simp only [List.length_drop, List.length_take]; rfl)) ?_; (with_reducible refine (prepaid_Worth.calls k2 a0_0 a0_1 _ _ l0_2 t120 _ ?side1 ?side2 A80.out).mono ?_); (case side1 => repeat (first | exact (Kd.C_below HR0_2.out HB.out) | (with_reducible refine Kd.C_alloc ?_ _) | (with_reducible refine Kd.C_drewN ?_ _) | (with_reducible refine Kd.C_drew ?_))); (case side2 => exact HC0_2.out); rintro e w83 ⟨rfl, hb⟩; refine ⟨_, rfl, ?_⟩; have n0_ := kl BK117 hb; have n1_ := ls1 HB GE117 hb; clear BK117; clear HB; have BK117 := n0_; have HB := n1_; clear n0_ n1_; (try clear hb); (try clear hb2); (try clear hk); (try clear hi)))
         go_ret
         exact ⟨by first | rfl | (simp [errW_none, errW_some] <;> rfl) | (simp [*, errW_none, errW_some] <;> rfl), lb1 HB GE117⟩
        ·rw [if_neg c81] at H
         have c81b0 : decide (1099511627776 < t120) = false := decide_eq_false c81
         clear c81
         obtain rfl := Option.some.inj H
         have hcz84_0 := bc BK117 0
         have hcz84_1 := bc BK117 1
         have hcz84_2 := bc BK117 2
         have hfz84_0 := blk_frozen BK117.out 0
         have hfz84_1 := blk_frozen BK117.out 1
         have hfz84_2 := blk_frozen BK117.out 2
         go_wp2_with (first | ((with_reducible refine gate_callee (f := 31) rfl ?_); refine goesL_ (some 72) rfl rfl Tryd.func31 (by kernel_rfl) rfl #[.agg #[.string a0_0, .int .i64 a0_1, .slice A0_2 l0_2.length c0_2]] rfl (by (try simp only [List.map_toArray, List.map_cons, List.map_nil]); first | done | rfl | (simp only [List.length_drop, List.length_take]; rfl)) ?_; (with_reducible refine (prepaid_Worth.calls k2 a0_0 a0_1 _ _ l0_2 t120 _ ?side1 ?side2 A80.out).mono ?_); (case side1 => repeat (first | exact (Kd.C_below HR0_2.out HB.out) | (with_reducible refine Kd.C_alloc ?_ _) | (with_reducible refine Kd.C_drewN ?_ _) | (with_reducible refine Kd.C_drew ?_))); (case side2 => exact HC0_2.out); rintro e w85 ⟨rfl, hb⟩; refine ⟨_, rfl, ?_⟩; have n0_ := kl BK117 hb; have n1_ := ls1 HB GE117 hb; clear BK117; clear HB; have BK117 := n0_; have HB := n1_; clear n0_ n1_; (try clear hb); (try clear hb2); (try clear hk); (try clear hi)))
         go_ret
         exact ⟨by first | rfl | (simp [errW_none, errW_some] <;> rfl) | (simp [*, errW_none, errW_some] <;> rfl), lb1 HB GE117⟩

end Go.Proofs.YtldpacphackdjaaDoor.Print
