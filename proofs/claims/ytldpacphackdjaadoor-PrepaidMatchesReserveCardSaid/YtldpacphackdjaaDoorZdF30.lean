/- That the call of function 30 (crossbarref28_Check) answers what the Lean function of the same name answers, at every input at which that one answers. (Written by a program of the session, which drives the kit's printer.) -/
import Derived.Test.YtldpacphackdjaaDoorZaSq
import Derived.Test.YtldpacphackdjaaDoorZaK0
import Derived.Test.YtldpacphackdjaaDoorZd1
namespace Go.Proofs.YtldpacphackdjaaDoor.Print
open Go.RowKit Go.Proofs.YtldpacphackdjaaDoorW.PrintWords Go.Proofs.YtldpacphackdjaaDoorW.PrintLast Go.Proofs.YtldpacphackdjaaDoorW.PrintMore
attribute [local go_sem] max2_int min2_int max_two min_two max_three min_three max_four min_four   -- for this text's walks alone
set_option linter.unusedVariables false
set_option linter.unusedSimpArgs false

/-! ### crossbarref28_Check: function 30 -/
mutual
def crossbarref28_Check.j0 : Nat → Bool → ByteArray → Int → List (S54) → Option (Int)
 | 0, _, _, _, _ => none
 | k + 1, x19, x187000, x187001, x187002 => if x19 = true then (some 1) else (crossbarref28_Check.l0 k x187001 0 x187000 x187001 x187002)
def crossbarref28_Check.l0 : Nat → Int → Int → ByteArray → Int → List (S54) → Option (Int)
 | 0, _, _, _, _, _ => none
 | k + 1, x3, x4, x187000, x187001, x187002 => if x4 < (x187002.length : Int) then (if 0 ≤ x4 then (if ((rd_T54 x187002 x4).f0) < 1 then (some 1) else ((crossbarref28_within.f ((rd_T54 x187002 x4).f0)).bind fun t192 => (if t192 = true then (if x4 > 0 then (if 0 ≤ (wrap64 (x4 - 1)) then (if (wrap64 (x4 - 1)) < (x187002.length : Int) then (if ((rd_T54 x187002 (wrap64 (x4 - 1))).f0) ≥ ((rd_T54 x187002 x4).f0) then (some 1) else ((crossbarref28_within.f ((rd_T54 x187002 x4).f1)).bind fun t194 => (if t194 = true then ((crossbarref28_within.f ((rd_T54 x187002 x4).f2)).bind fun t195 => (if t195 = true then (crossbarref28_Check.l0 k (wrap64 (x3 + ((rd_T54 x187002 x4).f1))) (wrap64 (x4 + 1)) x187000 x187001 x187002) else (some 1))) else (some 1)))) else (none)) else (none)) else ((crossbarref28_within.f ((rd_T54 x187002 x4).f1)).bind fun t196 => (if t196 = true then ((crossbarref28_within.f ((rd_T54 x187002 x4).f2)).bind fun t197 => (if t197 = true then (crossbarref28_Check.l0 k (wrap64 (x3 + ((rd_T54 x187002 x4).f1))) (wrap64 (x4 + 1)) x187000 x187001 x187002) else (some 1))) else (some 1)))) else (some 1)))) else (none)) else ((crossbarref28_within.f x3).bind fun t189 => (if t189 = true then (some 0) else (some 1)))
end
def crossbarref28_Check.f (k : Nat) (a0_0 : ByteArray) (a0_1 : Int) (l0_2 : List (S54)) : Option (Int) := if (l0_2.length : Int) > 1024 then (some 2) else ((crossbarref28_number.f k a0_0).bind fun t187 => (if t187 = true then ((crossbarref28_within.f a0_1).bind fun t188 => (crossbarref28_Check.j0 k (!t188) a0_0 a0_1 l0_2)) else (crossbarref28_Check.j0 k true a0_0 a0_1 l0_2)))
def crossbarref28_Check.T10 : Bool × List (List Nat × List Nat) := (true, [([], []), ([0], [0]), ([1], [1]), ([2], [2]), ([3], [3]), ([4, 3], [3, 4]), ([5, 3, 3], [3, 5]), ([6, 3], [3, 6]), ([3, 7], [3, 7]), ([8, 6], [8]), ([9], [9]), ([10, 9], [9, 10]), ([11, 9, 9], [9, 11]), ([12], [12]), ([13, 12], [12, 13]), ([12], [12]), ([15, 12], [12, 15]), ([14, 16, 12], [12, 14, 16]), ([17, 12], [12, 17]), ([18, 12], [12, 18]), ([12], [12]), ([20, 12], [12, 20]), ([19, 21, 12], [12, 19, 21]), ([12, 22, 9], [9, 12, 22]), ([9, 23], [9, 23]), ([24, 12], [24]), ([25], [25]), ([26, 25], [25, 26]), ([27, 25, 25], [25, 27]), ([28, 25], [25, 28]), ([25, 29], [25, 29]), ([30, 28], [30]), ([31], [31]), ([32, 31], [31, 32]), ([33, 31, 31], [31, 33]), ([34, 31], [31, 34]), ([31, 35], [31, 35])])
def crossbarref28_Check.B10 : List Nat := [0, 1, 3, 7, 15, 31, 63, 127, 255, 511, 1023, 2047, 4095, 8191, 16383, 8191, 40959, 131071, 262143, 524287, 8191, 1056767, 4194303, 8388607, 16777215, 33554431, 67108863, 134217727, 268435455, 536870911, 1073741823, 2147483647, 4294967295, 8589934591, 17179869183, 34359738367, 68719476735]
theorem crossbarref28_Check.tab10 : rtab .any (opsOf Tryd.f30 10) = crossbarref28_Check.T10 := by kernel_rfl
theorem crossbarref28_Check.bits10 : waitsOk crossbarref28_Check.T10.2 crossbarref28_Check.B10 = true := by kernel_rfl
set_option maxHeartbeats 8000000 in
set_option maxRecDepth 100000 in
theorem crossbarref28_Check.calls (k : Nat) (a0_0 : ByteArray) (a0_1 : Int) (A0_2 : Option Addr) (c0_2 : Nat) (l0_2 : List (S54)) (r : Int) (w : World) (hr0_2 : Kd.C k54 w A0_2 l0_2.length l0_2) (hc0_2 : l0_2.length ≤ c0_2) (h : crossbarref28_Check.f k a0_0 a0_1 l0_2 = some r) :
  Calls Tryd.prog 30 #[.agg #[.string a0_0, .int .i64 a0_1, .slice A0_2 l0_2.length c0_2]] w fun e w' => e = .returned (.int .i64 r) ∧ Below w.heap.size w w' := by
 have hu31 := Tryd.underlying31
 have hu54 := Tryd.underlying54
 have HR0_2 := Aside0.mk hr0_2
 have HC0_2 := Aside0.mk hc0_2
 clear hr0_2 hc0_2
 have HB := Aside0.mk (Below.refl w.heap.size w)
 have H : (if (l0_2.length : Int) > 1024 then (some 2) else ((crossbarref28_number.f k a0_0).bind fun t187 => (if t187 = true then ((crossbarref28_within.f a0_1).bind fun t188 => (crossbarref28_Check.j0 k (!t188) a0_0 a0_1 l0_2)) else (crossbarref28_Check.j0 k true a0_0 a0_1 l0_2)))) = some r := h
 clear h
 by_cases c2 : (l0_2.length : Int) > 1024
 ·rw [if_pos c2] at H
  have c2b0 : decide (1024 < (l0_2.length : Int)) = true := decide_eq_true c2
  have c2b1 : decide (1024 < l0_2.length) = true := decide_eq_true (by omega)
  clear c2
  obtain rfl := Option.some.inj H
  go_enter Tryd.func30, Tryd.ntmps30
  go_wp2_with (first | ((with_reducible refine gate_dst (N := 1) rfl ?_); refine box_event ?hg (N := 1) ?hd (cs := #[.string a0_0, .int .i64 a0_1, .slice A0_2 l0_2.length c0_2]) (t := 31) ?hr ?_; (case hd => rfl); (case hg => rfl); (case hr => first | (go_simp; done) | (go_simp; rfl)); intro gb186 hg w3 hbox hb; have n0_ := ls0 HB hb; have n1_ := Aside0.mk (hbox); have n2_ := Aside0.mk ((by rw [hg]; exact (below_size (lb0 HB)) : w.heap.size ≤ gb186)); have n3_ := Aside0.mk ((by rw [hg]; exact (below_size (lb0 HB)) : w.heap.size ≤ gb186)); clear HB; have HB := n0_; have BK186 := n1_; have GW186 := n2_; have GE186 := n3_; clear n0_ n1_ n2_ n3_; clear hb hbox hg; have hcz4_0 := bc BK186 0; have hcz4_1 := bc BK186 1; have hcz4_2 := bc BK186 2; have hfz4_0 := blk_frozen BK186.out 0; have hfz4_1 := blk_frozen BK186.out 1; have hfz4_2 := blk_frozen BK186.out 2))
  go_ret
  exact ⟨by first | rfl | (simp [errW_none, errW_some] <;> rfl) | (simp [*, errW_none, errW_some] <;> rfl), lb1 HB GE186⟩
 ·rw [if_neg c2] at H
  have c2b0 : decide (1024 < (l0_2.length : Int)) = false := decide_eq_false c2
  have c2b1 : decide (1024 < l0_2.length) = false := decide_eq_false (by omega)
  clear c2
  have HC5 := Aside0.mk H
  clear H
  go_enter Tryd.func30, Tryd.ntmps30
  go_upto_region 3 with (first | ((with_reducible refine gate_dst (N := 1) rfl ?_); refine box_event ?hg (N := 1) ?hd (cs := #[.string a0_0, .int .i64 a0_1, .slice A0_2 l0_2.length c0_2]) (t := 31) ?hr ?_; (case hd => rfl); (case hg => rfl); (case hr => first | (go_simp; done) | (go_simp; rfl)); intro gb186 hg w6 hbox hb; have n0_ := ls0 HB hb; have n1_ := Aside0.mk (hbox); have n2_ := Aside0.mk ((by rw [hg]; exact (below_size (lb0 HB)) : w.heap.size ≤ gb186)); have n3_ := Aside0.mk ((by rw [hg]; exact (below_size (lb0 HB)) : w.heap.size ≤ gb186)); clear HB; have HB := n0_; have BK186 := n1_; have GW186 := n2_; have GE186 := n3_; clear n0_ n1_ n2_ n3_; clear hb hbox hg; have hcz7_0 := bc BK186 0; have hcz7_1 := bc BK186 1; have hcz7_2 := bc BK186 2; have hfz7_0 := blk_frozen BK186.out 0; have hfz7_1 := blk_frozen BK186.out 1; have hfz7_2 := blk_frozen BK186.out 2))
  (try simp only [Act.put, List.setIfInBounds_toArray, List.set_cons_zero, List.set_cons_succ])
  go_cut [19] (fun v19 wc => ∃ (kq : Nat) (x19_4 : Bool), v19 = .bool x19_4 ∧ Aside0 (crossbarref28_Check.j0 kq x19_4 a0_0 a0_1 l0_2 = some r) ∧ Aside0 (kq ≤ k) ∧ Aside0 (wc.heap[gb186]? = some (.cells #[.string a0_0, .int .i64 a0_1, (.slice A0_2 l0_2.length c0_2)] 31 (0, 0))) ∧ Aside0 (Below w.heap.size w wc))
  case first =>
   have H := HC5.out
   clear HC5
   replace H := Option.bind_eq_some_iff.mp H
   obtain ⟨t187, A80, H⟩ := H
   replace H : (if t187 = true then ((crossbarref28_within.f a0_1).bind fun t188 => (crossbarref28_Check.j0 k (!t188) a0_0 a0_1 l0_2)) else (crossbarref28_Check.j0 k true a0_0 a0_1 l0_2)) = some r := H
   have A8 := Aside0.mk A80
   clear A80
   by_cases c9 : t187 = true
   ·subst c9
    have H1 : ((crossbarref28_within.f a0_1).bind fun t188 => (crossbarref28_Check.j0 k (!t188) a0_0 a0_1 l0_2)) = some r := by rw [if_pos rfl] at H; exact H
    clear H
    have H := H1
    clear H1
    replace H := Option.bind_eq_some_iff.mp H
    obtain ⟨t188, A100, H⟩ := H
    replace H : (crossbarref28_Check.j0 k (!t188) a0_0 a0_1 l0_2) = some r := H
    have A10 := Aside0.mk A100
    clear A100
    have H' := Aside0.mk H
    clear H
    have hcz11_0 := bc BK186 0
    have hcz11_1 := bc BK186 1
    have hcz11_2 := bc BK186 2
    have hfz11_0 := blk_frozen BK186.out 0
    have hfz11_1 := blk_frozen BK186.out 1
    have hfz11_2 := blk_frozen BK186.out 2
    go_wp2_with (first | ((with_reducible refine gate_callee (f := 62) rfl ?_); refine goesL_ (some 12) rfl rfl Tryd.func62 (by kernel_rfl) rfl #[.string a0_0] rfl (by (try simp only [List.map_toArray, List.map_cons, List.map_nil]); first | done | rfl | (simp only [List.length_drop, List.length_take]; rfl)) ?_; (with_reducible refine (crossbarref28_number.calls k a0_0 true _ A8.out).mono ?_); rintro e w' ⟨rfl, ⟨nd, rfl⟩⟩; refine ⟨_, rfl, ?_⟩) | (go_at_call 56; (with_reducible refine (crossbarref28_within.calls a0_1 t188 _ A10.out).mono ?_); rintro e w' ⟨rfl, ⟨nd, rfl⟩⟩))
    go_meet
    case rel => exact ⟨_, (!t188), (by first | rfl | (simp; done) | (simp [*]; done)), H', ⟨by first | omega | exact Nat.le_refl _⟩, ⟨kb BK186⟩, ⟨lb1 HB GE186⟩⟩
   ·replace c9 := Bool.eq_false_iff.mpr c9
    subst c9
    have H1 : (crossbarref28_Check.j0 k true a0_0 a0_1 l0_2) = some r := by rw [if_neg (show ¬ (false = true) by decide)] at H; exact H
    clear H
    have H := H1
    clear H1
    have H' := Aside0.mk H
    clear H
    have hcz12_0 := bc BK186 0
    have hcz12_1 := bc BK186 1
    have hcz12_2 := bc BK186 2
    have hfz12_0 := blk_frozen BK186.out 0
    have hfz12_1 := blk_frozen BK186.out 1
    have hfz12_2 := blk_frozen BK186.out 2
    go_wp2_with (first | ((with_reducible refine gate_callee (f := 62) rfl ?_); refine goesL_ (some 12) rfl rfl Tryd.func62 (by kernel_rfl) rfl #[.string a0_0] rfl (by (try simp only [List.map_toArray, List.map_cons, List.map_nil]); first | done | rfl | (simp only [List.length_drop, List.length_take]; rfl)) ?_; (with_reducible refine (crossbarref28_number.calls k a0_0 false _ A8.out).mono ?_); rintro e w' ⟨rfl, ⟨nd, rfl⟩⟩; refine ⟨_, rfl, ?_⟩))
    go_meet
    case rel => exact ⟨_, (true), (by first | rfl | (simp; done) | (simp [*]; done)), H', ⟨by first | omega | exact Nat.le_refl _⟩, ⟨kb BK186⟩, ⟨lb1 HB GE186⟩⟩
  case rest =>
   clear HC5
   try clear c2; try clear c2b0; try clear c2b1; try clear p2; try clear c3; try clear c6; try clear c9; try clear hcz11_0; try clear hcz11_1; try clear hcz11_2; try clear hcz12_0; try clear hcz12_1; try clear hcz12_2; try clear hcz4_0; try clear hcz4_1; try clear hcz4_2; try clear hcz7_0; try clear hcz7_1; try clear hcz7_2; try clear hfz11_0; try clear hfz11_1; try clear hfz11_2; try clear hfz12_0; try clear hfz12_1; try clear hfz12_2; try clear hfz4_0; try clear hfz4_1; try clear hfz4_2; try clear hfz7_0; try clear hfz7_1; try clear hfz7_2
   obtain ⟨kq, x19_4, rfl, HA, HJ4, BK186, HB⟩ := hcut
   cases kq with
   | zero => exact absurd HA.out (by simp [crossbarref28_Check.j0])
   | succ kj4 =>
    have H := HA.out
    clear HA
    simp only [crossbarref28_Check.j0] at H
    by_cases c13 : x19_4 = true
    ·subst c13
     have H1 : (some 1) = some r := by rw [if_pos rfl] at H; exact H
     clear H
     have H := H1
     clear H1
     obtain rfl := Option.some.inj H
     go_wp2
     go_ret
     exact ⟨by first | rfl | (simp [errW_none, errW_some] <;> rfl) | (simp [*, errW_none, errW_some] <;> rfl), lb1 HB GE186⟩
    ·replace c13 := Bool.eq_false_iff.mpr c13
     subst c13
     have H1 : (crossbarref28_Check.l0 kj4 a0_1 0 a0_0 a0_1 l0_2) = some r := by rw [if_neg (show ¬ (false = true) by decide)] at H; exact H
     clear H
     have H := H1
     clear H1
     have H' := Aside0.mk H
     clear H
     have hcz14_0 := bc BK186 0
     have hcz14_1 := bc BK186 1
     have hcz14_2 := bc BK186 2
     have hfz14_0 := blk_frozen BK186.out 0
     have hfz14_1 := blk_frozen BK186.out 1
     have hfz14_2 := blk_frozen BK186.out 2
     go_wp2
     go_loopg [3, 4] kj4 (fun kq v3 v4 w' => ∃ (x3_2 : Int) (x4_2 : Int), v3 = .int .i64 x3_2 ∧ v4 = .int .i64 x4_2 ∧ Aside0 (crossbarref28_Check.l0 kq x3_2 x4_2 a0_0 a0_1 l0_2 = some r) ∧ Aside0 (kq ≤ kj4) ∧ Aside0 (w'.heap[gb186]? = some (.cells #[.string a0_0, .int .i64 a0_1, (.slice A0_2 l0_2.length c0_2)] 31 (0, 0))) ∧ Aside0 (Below w.heap.size w w'))
     case atStart => exact ⟨(a0_1), (0), (by first | rfl | (simp; done) | (simp [*]; done)), (by first | rfl | (simp; done) | (simp [*]; done)), H', ⟨Nat.le_refl _⟩, ⟨kb BK186⟩, ⟨lb1 HB GE186⟩⟩
     case round =>
      clear H'
      try clear c1; try clear c2; try clear c2b0; try clear c2b1; try clear p2; try clear c3; try clear c6; try clear c9; try clear c13; try clear hcz11_0; try clear hcz11_1; try clear hcz11_2; try clear hcz12_0; try clear hcz12_1; try clear hcz12_2; try clear hcz14_0; try clear hcz14_1; try clear hcz14_2; try clear hcz4_0; try clear hcz4_1; try clear hcz4_2; try clear hcz7_0; try clear hcz7_1; try clear hcz7_2; try clear hfz11_0; try clear hfz11_1; try clear hfz11_2; try clear hfz12_0; try clear hfz12_1; try clear hfz12_2; try clear hfz14_0; try clear hfz14_1; try clear hfz14_2; try clear hfz4_0; try clear hfz4_1; try clear hfz4_2; try clear hfz7_0; try clear hfz7_1; try clear hfz7_2; try clear p2
      obtain ⟨x3_2, x4_2, rfl, rfl, HA, HK2, BK186, HB⟩ := hrel
      cases gk with
      | zero => exact absurd HA.out (by simp [crossbarref28_Check.l0])
      | succ k2 =>
       have H := HA.out
       clear HA
       simp only [crossbarref28_Check.l0] at H
       by_cases c15 : x4_2 < (l0_2.length : Int)
       ·rw [if_pos c15] at H
        have c15b0 : decide (x4_2 < (l0_2.length : Int)) = true := decide_eq_true c15
        clear c15
        by_cases c16 : 0 ≤ x4_2
        ·rw [if_pos c16] at H
         have c16b0 : decide (0 ≤ x4_2) = true := decide_eq_true c16
         clear c16
         by_cases c17 : ((rd_T54 l0_2 x4_2).f0) < 1
         ·rw [if_pos c17] at H
          have c17b0 : decide (((rd_T54 l0_2 x4_2).f0) < 1) = true := decide_eq_true c17
          clear c17
          obtain rfl := Option.some.inj H
          have hcz18_0 := bc BK186 0
          have hcz18_1 := bc BK186 1
          have hcz18_2 := bc BK186 2
          have hfz18_0 := blk_frozen BK186.out 0
          have hfz18_1 := blk_frozen BK186.out 1
          have hfz18_2 := blk_frozen BK186.out 2
          have p190 : 0 ≤ (x4_2 : Int) := of_decide_eq_true (by first | (with_reducible assumption) | assumption)
          have q190 : x4_2 < (l0_2.length : Int) := of_decide_eq_true (by first | (with_reducible assumption) | assumption)
          obtain ⟨ad190, e190, hx190_0, hx190_1, hx190_2⟩ := at_T54 HR0_2.out x4_2 p190 q190
          cases e190
          replace hx190_0 := (HB.out.cell (World.block_lt_of_cell? w _ hx190_0)).trans hx190_0
          replace hx190_1 := (HB.out.cell (World.block_lt_of_cell? w _ hx190_1)).trans hx190_1
          replace hx190_2 := (HB.out.cell (World.block_lt_of_cell? w _ hx190_2)).trans hx190_2
          replace p190 := eq_true p190
          replace q190 := eq_true q190
          try go_wp2_with (first | ((with_reducible refine gate_dst (N := 5) rfl ?_); refine box_event ?hg (N := 5) ?hd (cs := #[.int .i64 0, .int .i64 0, .int .i64 0]) (t := 54) ?hr ?_; (case hd => rfl); (case hg => rfl); (case hr => first | (go_simp; done) | (go_simp; rfl)); intro gb191 hg w19 hbox hb; have n0_ := kl BK186 hb; have n1_ := ls1 HB GE186 hb; have n2_ := Aside0.mk (hbox); have n3_ := Aside0.mk ((by rw [hg]; exact (below_size (lb1 HB GE186)) : w.heap.size ≤ gb191)); have n4_ := Aside0.mk ((by rw [hg]; exact (below_size (lb1 HB GE186)) : w.heap.size ≤ gb191)); have n5_ := kn BK186 hg; have n6_ := km BK186 hg; clear BK186; clear HB; have BK186 := n0_; have HB := n1_; have BK191 := n2_; have GW191 := n3_; have GE191 := n4_; have NB186_191 := n5_; have NB191_186 := n6_; clear n0_ n1_ n2_ n3_ n4_ n5_ n6_; clear hb hbox hg; have hnb20 := NB191_186.out; have hnc20 := NB186_191.out; have hcz21_0 := bc BK191 0; have hcz21_1 := bc BK191 1; have hcz21_2 := bc BK191 2; have hfz21_0 := blk_frozen BK191.out 0; have hfz21_1 := blk_frozen BK191.out 1; have hfz21_2 := blk_frozen BK191.out 2))
          have n0_ : Aside0 ((((w19.setCell ⟨gb191, 0, none⟩ (.int .i64 ((rd_T54 l0_2 x4_2).f0))).setCell ⟨gb191, 1, none⟩ (.int .i64 ((rd_T54 l0_2 x4_2).f1))).setCell ⟨gb191, 2, none⟩ (.int .i64 ((rd_T54 l0_2 x4_2).f2))).heap[gb186]? = some (.cells #[.string a0_0, .int .i64 a0_1, .slice (some ad190) l0_2.length c0_2] 31 (0, 0))) := ⟨kf1 BK186 NB186_191⟩
          have n1_ : Aside0 ((((w19.setCell ⟨gb191, 0, none⟩ (.int .i64 ((rd_T54 l0_2 x4_2).f0))).setCell ⟨gb191, 1, none⟩ (.int .i64 ((rd_T54 l0_2 x4_2).f1))).setCell ⟨gb191, 2, none⟩ (.int .i64 ((rd_T54 l0_2 x4_2).f2))).heap[gb191]? = some (.cells #[.int .i64 ((rd_T54 l0_2 x4_2).f0), .int .i64 ((rd_T54 l0_2 x4_2).f1), .int .i64 ((rd_T54 l0_2 x4_2).f2)] 54 (0, 0))) := ⟨by (with_reducible repeat (first | refine blk_drewN ?_ _ | refine blk_drew ?_ | refine blk_alloc ?_ _)); refine blk_put (cs := #[.int .i64 ((rd_T54 l0_2 x4_2).f0), .int .i64 ((rd_T54 l0_2 x4_2).f1), .int .i64 0]) ?_ 2 _ rfl; (with_reducible repeat (first | refine blk_drewN ?_ _ | refine blk_drew ?_ | refine blk_alloc ?_ _)); refine blk_put (cs := #[.int .i64 ((rd_T54 l0_2 x4_2).f0), .int .i64 0, .int .i64 0]) ?_ 1 _ rfl; (with_reducible repeat (first | refine blk_drewN ?_ _ | refine blk_drew ?_ | refine blk_alloc ?_ _)); refine blk_put (cs := #[.int .i64 0, .int .i64 0, .int .i64 0]) ?_ 0 _ rfl; (with_reducible repeat (first | refine blk_drewN ?_ _ | refine blk_drew ?_ | refine blk_alloc ?_ _)); exact BK191.out⟩
          have n2_ : Aside0 (Below w.heap.size w (((w19.setCell ⟨gb191, 0, none⟩ (.int .i64 ((rd_T54 l0_2 x4_2).f0))).setCell ⟨gb191, 1, none⟩ (.int .i64 ((rd_T54 l0_2 x4_2).f1))).setCell ⟨gb191, 2, none⟩ (.int .i64 ((rd_T54 l0_2 x4_2).f2)))) := ⟨lb2 HB GE186 GE191⟩
          (try clear BK186)
          (try clear BK191)
          (try clear HB)
          generalize (((w19.setCell ⟨gb191, 0, none⟩ (.int .i64 ((rd_T54 l0_2 x4_2).f0))).setCell ⟨gb191, 1, none⟩ (.int .i64 ((rd_T54 l0_2 x4_2).f1))).setCell ⟨gb191, 2, none⟩ (.int .i64 ((rd_T54 l0_2 x4_2).f2))) = w22 at n0_ n1_ n2_ ⊢
          have BK186 := n0_
          have BK191 := n1_
          have HB := n2_
          clear n0_ n1_ n2_
          have n0_ := Aside0.mk (blk_drew BK186.out)
          have n1_ := Aside0.mk (blk_drew BK191.out)
          have n2_ := Aside0.mk (below_drew1 HB.out)
          clear BK186
          clear BK191
          clear HB
          have BK186 := n0_
          have BK191 := n1_
          have HB := n2_
          clear n0_ n1_ n2_
          refine start_ (n := 37) (S := fun w' => w'.cell? ⟨gb191, 0, none⟩ = some (.int .i64 ((rd_T54 l0_2 x4_2).f0)) ∧ w'.cell? ⟨gb191, 1, none⟩ = some (.int .i64 ((rd_T54 l0_2 x4_2).f1)) ∧ w'.cell? ⟨gb191, 2, none⟩ = some (.int .i64 ((rd_T54 l0_2 x4_2).f2))) (ds := []) #[false, false, false, false, false, false, false, false, false, false, false, false, false, false, false, false, false, false, false, false, false, false, false, false, false, false, false, false, false, false, false, false, false, false, false, false, false] (by kernel_rfl) rfl rfl ⟨(blk_cell BK191.out 0).trans rfl, (blk_cell BK191.out 1).trans rfl, (blk_cell BK191.out 2).trans rfl⟩ (fun hHeld => ?_); refine with_tabW crossbarref28_Check.tab10 crossbarref28_Check.bits10 (fun HT_ HW_ => ?_)
          generalize w22.drew = w23 at BK186 BK191 HB hHeld ⊢
          refine p_ 0 34 HT_ ?_
          refine t_ 1 35 HT_ HW_ rfl rfl hHeld (by rintro w' ⟨s0, s1, s2⟩; go_simp; with_reducible rfl) ?_
          refine p_ 2 36 HT_ ?_
          refine p_ 3 37 HT_ ?_
          refine q_ 4 38 HT_ ?_
          refine q_ 5 39 HT_ ?_
          refine q_ 6 40 HT_ ?_
          refine q_ 7 41 HT_ ?_
          refine p_ 8 42 HT_ ?_
          refine p_ 9 43 HT_ ?_
          refine q_ 10 44 HT_ ?_
          refine q_ 11 45 HT_ ?_
          refine q_ 12 46 HT_ ?_
          refine q_ 13 47 HT_ ?_
          refine q_ 14 48 HT_ ?_
          refine q_ 15 49 HT_ ?_
          refine q_ 16 50 HT_ ?_
          refine q_ 17 51 HT_ ?_
          refine q_ 18 52 HT_ ?_
          refine q_ 19 53 HT_ ?_
          refine q_ 20 54 HT_ ?_
          refine q_ 21 55 HT_ ?_
          refine q_ 22 56 HT_ ?_
          refine q_ 23 57 HT_ ?_
          refine p_ 24 58 HT_ ?_
          refine p_ 25 59 HT_ ?_
          refine q_ 26 60 HT_ ?_
          refine q_ 27 61 HT_ ?_
          refine q_ 28 62 HT_ ?_
          refine q_ 29 63 HT_ ?_
          refine p_ 30 64 HT_ ?_
          refine p_ 31 65 HT_ ?_
          refine q_ 32 66 HT_ ?_
          refine q_ 33 67 HT_ ?_
          refine q_ 34 68 HT_ ?_
          refine q_ 35 69 HT_ ?_
          refine p_ 36 70 HT_ ?_
          refine done_ (done_of HT_.out (by kernel_rfl)) ?_
          try go_wp2
          go_ret
          exact ⟨by first | rfl | (simp [errW_none, errW_some] <;> rfl) | (simp [*, errW_none, errW_some] <;> rfl), lb2 HB GE186 GE191⟩
         ·rw [if_neg c17] at H
          have c17b0 : decide (((rd_T54 l0_2 x4_2).f0) < 1) = false := decide_eq_false c17
          clear c17
          replace H := Option.bind_eq_some_iff.mp H
          obtain ⟨t192, A240, H⟩ := H
          replace H : (if t192 = true then (if x4_2 > 0 then (if 0 ≤ (wrap64 (x4_2 - 1)) then (if (wrap64 (x4_2 - 1)) < (l0_2.length : Int) then (if ((rd_T54 l0_2 (wrap64 (x4_2 - 1))).f0) ≥ ((rd_T54 l0_2 x4_2).f0) then (some 1) else ((crossbarref28_within.f ((rd_T54 l0_2 x4_2).f1)).bind fun t194 => (if t194 = true then ((crossbarref28_within.f ((rd_T54 l0_2 x4_2).f2)).bind fun t195 => (if t195 = true then (crossbarref28_Check.l0 k2 (wrap64 (x3_2 + ((rd_T54 l0_2 x4_2).f1))) (wrap64 (x4_2 + 1)) a0_0 a0_1 l0_2) else (some 1))) else (some 1)))) else (none)) else (none)) else ((crossbarref28_within.f ((rd_T54 l0_2 x4_2).f1)).bind fun t196 => (if t196 = true then ((crossbarref28_within.f ((rd_T54 l0_2 x4_2).f2)).bind fun t197 => (if t197 = true then (crossbarref28_Check.l0 k2 (wrap64 (x3_2 + ((rd_T54 l0_2 x4_2).f1))) (wrap64 (x4_2 + 1)) a0_0 a0_1 l0_2) else (some 1))) else (some 1)))) else (some 1)) = some r := H
          have A24 := Aside0.mk A240
          clear A240
          by_cases c25 : t192 = true
          ·subst c25
           have H1 : (if x4_2 > 0 then (if 0 ≤ (wrap64 (x4_2 - 1)) then (if (wrap64 (x4_2 - 1)) < (l0_2.length : Int) then (if ((rd_T54 l0_2 (wrap64 (x4_2 - 1))).f0) ≥ ((rd_T54 l0_2 x4_2).f0) then (some 1) else ((crossbarref28_within.f ((rd_T54 l0_2 x4_2).f1)).bind fun t194 => (if t194 = true then ((crossbarref28_within.f ((rd_T54 l0_2 x4_2).f2)).bind fun t195 => (if t195 = true then (crossbarref28_Check.l0 k2 (wrap64 (x3_2 + ((rd_T54 l0_2 x4_2).f1))) (wrap64 (x4_2 + 1)) a0_0 a0_1 l0_2) else (some 1))) else (some 1)))) else (none)) else (none)) else ((crossbarref28_within.f ((rd_T54 l0_2 x4_2).f1)).bind fun t196 => (if t196 = true then ((crossbarref28_within.f ((rd_T54 l0_2 x4_2).f2)).bind fun t197 => (if t197 = true then (crossbarref28_Check.l0 k2 (wrap64 (x3_2 + ((rd_T54 l0_2 x4_2).f1))) (wrap64 (x4_2 + 1)) a0_0 a0_1 l0_2) else (some 1))) else (some 1)))) = some r := by rw [if_pos rfl] at H; exact H
           clear H
           have H := H1
           clear H1
           by_cases c26 : x4_2 > 0
           ·rw [if_pos c26] at H
            have c26b0 : decide (0 < x4_2) = true := decide_eq_true c26
            clear c26
            obtain ⟨ji27, hji27⟩ : ∃ j_ : Int, (wrap64 (x4_2 - 1)) = j_ := ⟨_, rfl⟩
            replace H : (if 0 ≤ (ji27) then (if (ji27) < (l0_2.length : Int) then (if ((rd_T54 l0_2 (ji27)).f0) ≥ ((rd_T54 l0_2 x4_2).f0) then (some 1) else ((crossbarref28_within.f ((rd_T54 l0_2 x4_2).f1)).bind fun t194 => (if t194 = true then ((crossbarref28_within.f ((rd_T54 l0_2 x4_2).f2)).bind fun t195 => (if t195 = true then (crossbarref28_Check.l0 k2 (wrap64 (x3_2 + ((rd_T54 l0_2 x4_2).f1))) (wrap64 (x4_2 + 1)) a0_0 a0_1 l0_2) else (some 1))) else (some 1)))) else (none)) else (none)) = some r := by first | (rw [hji27] at H; exact H) | (simp only [hji27] at H ⊢; exact H)
            (try rw [hji27] at A24)
            have hji27w : (IntKind.i64.wrap (x4_2 - 1)) = ji27 := (i64_w _).trans hji27
            by_cases c28 : 0 ≤ (ji27)
            ·rw [if_pos c28] at H
             have c28b0 : decide (0 ≤ (ji27)) = true := decide_eq_true c28
             clear c28
             by_cases c29 : (ji27) < (l0_2.length : Int)
             ·rw [if_pos c29] at H
              have c29b0 : decide ((ji27) < (l0_2.length : Int)) = true := decide_eq_true c29
              clear c29
              by_cases c30 : ((rd_T54 l0_2 (ji27)).f0) ≥ ((rd_T54 l0_2 x4_2).f0)
              ·rw [if_pos c30] at H
               have c30b0 : decide (((rd_T54 l0_2 x4_2).f0) ≤ ((rd_T54 l0_2 (ji27)).f0)) = true := decide_eq_true c30
               clear c30
               obtain rfl := Option.some.inj H
               have hcz31_0 := bc BK186 0
               have hcz31_1 := bc BK186 1
               have hcz31_2 := bc BK186 2
               have hfz31_0 := blk_frozen BK186.out 0
               have hfz31_1 := blk_frozen BK186.out 1
               have hfz31_2 := blk_frozen BK186.out 2
               have p190 : 0 ≤ (x4_2 : Int) := of_decide_eq_true (by first | (with_reducible assumption) | assumption)
               have q190 : x4_2 < (l0_2.length : Int) := of_decide_eq_true (by first | (with_reducible assumption) | assumption)
               obtain ⟨ad190, e190, hx190_0, hx190_1, hx190_2⟩ := at_T54 HR0_2.out x4_2 p190 q190
               cases e190
               replace hx190_0 := (HB.out.cell (World.block_lt_of_cell? w _ hx190_0)).trans hx190_0
               replace hx190_1 := (HB.out.cell (World.block_lt_of_cell? w _ hx190_1)).trans hx190_1
               replace hx190_2 := (HB.out.cell (World.block_lt_of_cell? w _ hx190_2)).trans hx190_2
               replace p190 := eq_true p190
               replace q190 := eq_true q190
               try go_wp2_with (first | ((with_reducible refine gate_dst (N := 5) rfl ?_); refine box_event ?hg (N := 5) ?hd (cs := #[.int .i64 0, .int .i64 0, .int .i64 0]) (t := 54) ?hr ?_; (case hd => rfl); (case hg => rfl); (case hr => first | (go_simp; done) | (go_simp; rfl)); intro gb191 hg w32 hbox hb; have n0_ := kl BK186 hb; have n1_ := ls1 HB GE186 hb; have n2_ := Aside0.mk (hbox); have n3_ := Aside0.mk ((by rw [hg]; exact (below_size (lb1 HB GE186)) : w.heap.size ≤ gb191)); have n4_ := Aside0.mk ((by rw [hg]; exact (below_size (lb1 HB GE186)) : w.heap.size ≤ gb191)); have n5_ := kn BK186 hg; have n6_ := km BK186 hg; clear BK186; clear HB; have BK186 := n0_; have HB := n1_; have BK191 := n2_; have GW191 := n3_; have GE191 := n4_; have NB186_191 := n5_; have NB191_186 := n6_; clear n0_ n1_ n2_ n3_ n4_ n5_ n6_; clear hb hbox hg; have hnb33 := NB191_186.out; have hnc33 := NB186_191.out; have hcz34_0 := bc BK191 0; have hcz34_1 := bc BK191 1; have hcz34_2 := bc BK191 2; have hfz34_0 := blk_frozen BK191.out 0; have hfz34_1 := blk_frozen BK191.out 1; have hfz34_2 := blk_frozen BK191.out 2))
               have n0_ : Aside0 ((((w32.setCell ⟨gb191, 0, none⟩ (.int .i64 ((rd_T54 l0_2 x4_2).f0))).setCell ⟨gb191, 1, none⟩ (.int .i64 ((rd_T54 l0_2 x4_2).f1))).setCell ⟨gb191, 2, none⟩ (.int .i64 ((rd_T54 l0_2 x4_2).f2))).heap[gb186]? = some (.cells #[.string a0_0, .int .i64 a0_1, .slice (some ad190) l0_2.length c0_2] 31 (0, 0))) := ⟨kf1 BK186 NB186_191⟩
               have n1_ : Aside0 ((((w32.setCell ⟨gb191, 0, none⟩ (.int .i64 ((rd_T54 l0_2 x4_2).f0))).setCell ⟨gb191, 1, none⟩ (.int .i64 ((rd_T54 l0_2 x4_2).f1))).setCell ⟨gb191, 2, none⟩ (.int .i64 ((rd_T54 l0_2 x4_2).f2))).heap[gb191]? = some (.cells #[.int .i64 ((rd_T54 l0_2 x4_2).f0), .int .i64 ((rd_T54 l0_2 x4_2).f1), .int .i64 ((rd_T54 l0_2 x4_2).f2)] 54 (0, 0))) := ⟨by (with_reducible repeat (first | refine blk_drewN ?_ _ | refine blk_drew ?_ | refine blk_alloc ?_ _)); refine blk_put (cs := #[.int .i64 ((rd_T54 l0_2 x4_2).f0), .int .i64 ((rd_T54 l0_2 x4_2).f1), .int .i64 0]) ?_ 2 _ rfl; (with_reducible repeat (first | refine blk_drewN ?_ _ | refine blk_drew ?_ | refine blk_alloc ?_ _)); refine blk_put (cs := #[.int .i64 ((rd_T54 l0_2 x4_2).f0), .int .i64 0, .int .i64 0]) ?_ 1 _ rfl; (with_reducible repeat (first | refine blk_drewN ?_ _ | refine blk_drew ?_ | refine blk_alloc ?_ _)); refine blk_put (cs := #[.int .i64 0, .int .i64 0, .int .i64 0]) ?_ 0 _ rfl; (with_reducible repeat (first | refine blk_drewN ?_ _ | refine blk_drew ?_ | refine blk_alloc ?_ _)); exact BK191.out⟩
               have n2_ : Aside0 (Below w.heap.size w (((w32.setCell ⟨gb191, 0, none⟩ (.int .i64 ((rd_T54 l0_2 x4_2).f0))).setCell ⟨gb191, 1, none⟩ (.int .i64 ((rd_T54 l0_2 x4_2).f1))).setCell ⟨gb191, 2, none⟩ (.int .i64 ((rd_T54 l0_2 x4_2).f2)))) := ⟨lb2 HB GE186 GE191⟩
               (try clear BK186)
               (try clear BK191)
               (try clear HB)
               generalize (((w32.setCell ⟨gb191, 0, none⟩ (.int .i64 ((rd_T54 l0_2 x4_2).f0))).setCell ⟨gb191, 1, none⟩ (.int .i64 ((rd_T54 l0_2 x4_2).f1))).setCell ⟨gb191, 2, none⟩ (.int .i64 ((rd_T54 l0_2 x4_2).f2))) = w35 at n0_ n1_ n2_ ⊢
               have BK186 := n0_
               have BK191 := n1_
               have HB := n2_
               clear n0_ n1_ n2_
               have n0_ := Aside0.mk (blk_drew BK186.out)
               have n1_ := Aside0.mk (blk_drew BK191.out)
               have n2_ := Aside0.mk (below_drew1 HB.out)
               clear BK186
               clear BK191
               clear HB
               have BK186 := n0_
               have BK191 := n1_
               have HB := n2_
               clear n0_ n1_ n2_
               have p193 : 0 ≤ ((ji27) : Int) := of_decide_eq_true (by first | (with_reducible assumption) | assumption)
               have q193 : (ji27) < (l0_2.length : Int) := of_decide_eq_true (by first | (with_reducible assumption) | assumption)
               obtain ⟨ad193, e193, hx193_0, hx193_1, hx193_2⟩ := at_T54 HR0_2.out (ji27) p193 q193
               have hw193_2 := hx193_2
               have hw193_1 := hx193_1
               have hw193_0 := hx193_0
               obtain rfl : ad190 = ad193 := (by injection e193)
               replace hx193_0 := (HB.out.cell (World.block_lt_of_cell? w _ hx193_0)).trans hx193_0
               replace hx193_1 := (HB.out.cell (World.block_lt_of_cell? w _ hx193_1)).trans hx193_1
               replace hx193_2 := (HB.out.cell (World.block_lt_of_cell? w _ hx193_2)).trans hx193_2
               replace p193 := eq_true p193
               replace q193 := eq_true q193
               refine start_ (n := 37) (S := fun w' => w'.cell? ⟨gb191, 0, none⟩ = some (.int .i64 ((rd_T54 l0_2 x4_2).f0)) ∧ w'.cell? ⟨gb191, 1, none⟩ = some (.int .i64 ((rd_T54 l0_2 x4_2).f1)) ∧ w'.cell? ⟨gb191, 2, none⟩ = some (.int .i64 ((rd_T54 l0_2 x4_2).f2)) ∧ w'.cell? ⟨gb186, 0, none⟩ = some (.string a0_0) ∧ w'.cell? ⟨gb186, 1, none⟩ = some (.int .i64 a0_1) ∧ w'.cell? ⟨gb186, 2, none⟩ = some (.slice (some ad190) l0_2.length c0_2) ∧ w'.cell? (ad190.add (((ji27)).toNat * 3)) = some (.int .i64 ((rd_T54 l0_2 (ji27)).f0)) ∧ w'.cell? ⟨(ad190.add (((ji27)).toNat * 3)).block, (ad190.add (((ji27)).toNat * 3)).off + 1, none⟩ = some (.int .i64 ((rd_T54 l0_2 (ji27)).f1)) ∧ w'.cell? ⟨(ad190.add (((ji27)).toNat * 3)).block, (ad190.add (((ji27)).toNat * 3)).off + 2, none⟩ = some (.int .i64 ((rd_T54 l0_2 (ji27)).f2))) (ds := []) #[false, false, false, false, false, false, false, false, false, false, false, false, false, false, false, false, false, false, false, false, false, false, false, false, false, false, false, false, false, false, false, false, false, false, false, false, false] (by kernel_rfl) rfl rfl ⟨(blk_cell BK191.out 0).trans rfl, (blk_cell BK191.out 1).trans rfl, (blk_cell BK191.out 2).trans rfl, (blk_cell BK186.out 0).trans rfl, (blk_cell BK186.out 1).trans rfl, (blk_cell BK186.out 2).trans rfl, ((HB.out.cell (World.block_lt_of_cell? w _ hw193_0)).trans hw193_0), ((HB.out.cell (World.block_lt_of_cell? w _ hw193_1)).trans hw193_1), ((HB.out.cell (World.block_lt_of_cell? w _ hw193_2)).trans hw193_2)⟩ (fun hHeld => ?_); refine with_tabW crossbarref28_Check.tab10 crossbarref28_Check.bits10 (fun HT_ HW_ => ?_)
               generalize w35.drew = w36 at BK186 BK191 HB hx193_0 hx193_1 hx193_2 hHeld ⊢
               refine p_ 0 34 HT_ ?_
               refine t_ 1 35 HT_ HW_ rfl rfl hHeld (by rintro w' ⟨s0, s1, s2, s3, s4, s5, s6, s7, s8⟩; go_simp; with_reducible rfl) ?_
               refine p_ 2 36 HT_ ?_
               refine p_ 3 37 HT_ ?_
               refine p_ 4 38 HT_ ?_
               refine t_ 5 39 HT_ HW_ rfl rfl hHeld (by rintro w' ⟨s0, s1, s2, s3, s4, s5, s6, s7, s8⟩; go_simp; with_reducible rfl) ?_
               refine o_ 6 40 HT_ (fun K hK => ?_)
               refine goes_ Tryd.func56 (by kernel_rfl) rfl #[.int .i64 ((rd_T54 l0_2 x4_2).f0)] (by rfl) rfl rfl (by (try simp only [List.map_toArray, List.map_cons, List.map_nil]); first | done | rfl | (simp only [List.length_drop, List.length_take]; rfl)) ?_
               with_reducible refine (crossbarref28_within.calls ((rd_T54 l0_2 x4_2).f0) true _ A24.out).mono ?_
               rintro e w' ⟨rfl, ⟨nd, rfl⟩⟩
               refine ⟨_, rfl, ?_⟩
               refine hK.out _ _ ⟨(blk_cell BK191.out 0).trans rfl, (blk_cell BK191.out 1).trans rfl, (blk_cell BK191.out 2).trans rfl, (blk_cell BK186.out 0).trans rfl, (blk_cell BK186.out 1).trans rfl, (blk_cell BK186.out 2).trans rfl, ((HB.out.cell (World.block_lt_of_cell? w _ hw193_0)).trans hw193_0), ((HB.out.cell (World.block_lt_of_cell? w _ hw193_1)).trans hw193_1), ((HB.out.cell (World.block_lt_of_cell? w _ hw193_2)).trans hw193_2)⟩ (fun hHeld => ?_)
               clear hK K
               refine n_ 40 ?_
               refine p_ 7 41 HT_ ?_
               refine p_ 8 42 HT_ ?_
               refine p_ 9 43 HT_ ?_
               refine p_ 10 44 HT_ ?_
               refine p_ 11 45 HT_ ?_
               refine p_ 12 46 HT_ ?_
               refine p_ 13 47 HT_ ?_
               refine p_ 15 49 HT_ ?_
               refine p_ 16 50 HT_ ?_
               refine p_ 20 54 HT_ ?_
               refine t_ 14 48 HT_ HW_ rfl rfl hHeld (by rintro w' ⟨s0, s1, s2, s3, s4, s5, s6, s7, s8⟩; go_simp; with_reducible rfl) ?_
               refine p_ 17 51 HT_ ?_
               refine p_ 18 52 HT_ ?_
               refine t_ 19 53 HT_ HW_ rfl rfl hHeld (by rintro w' ⟨s0, s1, s2, s3, s4, s5, s6, s7, s8⟩; go_simp; with_reducible rfl) ?_
               refine t_ 21 55 HT_ HW_ rfl rfl hHeld (by rintro w' ⟨s0, s1, s2, s3, s4, s5, s6, s7, s8⟩; go_simp; with_reducible rfl) ?_
               refine p_ 22 56 HT_ ?_
               refine p_ 23 57 HT_ ?_
               refine p_ 24 58 HT_ ?_
               refine p_ 25 59 HT_ ?_
               refine q_ 26 60 HT_ ?_
               refine q_ 27 61 HT_ ?_
               refine q_ 28 62 HT_ ?_
               refine q_ 29 63 HT_ ?_
               refine p_ 30 64 HT_ ?_
               refine p_ 31 65 HT_ ?_
               refine q_ 32 66 HT_ ?_
               refine q_ 33 67 HT_ ?_
               refine q_ 34 68 HT_ ?_
               refine q_ 35 69 HT_ ?_
               refine p_ 36 70 HT_ ?_
               refine done_ (done_of HT_.out (by kernel_rfl)) ?_
               try go_wp2
               go_ret
               exact ⟨by first | rfl | (simp [errW_none, errW_some] <;> rfl) | (simp only [← hji27]; first | rfl | (simp [errW_none, errW_some] <;> rfl)) | (simp [*, errW_none, errW_some] <;> rfl), lb2 HB GE186 GE191⟩
              ·rw [if_neg c30] at H
               have c30b0 : decide (((rd_T54 l0_2 x4_2).f0) ≤ ((rd_T54 l0_2 (ji27)).f0)) = false := decide_eq_false c30
               clear c30
               replace H := Option.bind_eq_some_iff.mp H
               obtain ⟨t194, A370, H⟩ := H
               replace H : (if t194 = true then ((crossbarref28_within.f ((rd_T54 l0_2 x4_2).f2)).bind fun t195 => (if t195 = true then (crossbarref28_Check.l0 k2 (wrap64 (x3_2 + ((rd_T54 l0_2 x4_2).f1))) (wrap64 (x4_2 + 1)) a0_0 a0_1 l0_2) else (some 1))) else (some 1)) = some r := H
               have A37 := Aside0.mk A370
               clear A370
               by_cases c38 : t194 = true
               ·subst c38
                have H1 : ((crossbarref28_within.f ((rd_T54 l0_2 x4_2).f2)).bind fun t195 => (if t195 = true then (crossbarref28_Check.l0 k2 (wrap64 (x3_2 + ((rd_T54 l0_2 x4_2).f1))) (wrap64 (x4_2 + 1)) a0_0 a0_1 l0_2) else (some 1))) = some r := by rw [if_pos rfl] at H; exact H
                clear H
                have H := H1
                clear H1
                replace H := Option.bind_eq_some_iff.mp H
                obtain ⟨t195, A390, H⟩ := H
                replace H : (if t195 = true then (crossbarref28_Check.l0 k2 (wrap64 (x3_2 + ((rd_T54 l0_2 x4_2).f1))) (wrap64 (x4_2 + 1)) a0_0 a0_1 l0_2) else (some 1)) = some r := H
                have A39 := Aside0.mk A390
                clear A390
                by_cases c40 : t195 = true
                ·subst c40
                 have H1 : (crossbarref28_Check.l0 k2 (wrap64 (x3_2 + ((rd_T54 l0_2 x4_2).f1))) (wrap64 (x4_2 + 1)) a0_0 a0_1 l0_2) = some r := by rw [if_pos rfl] at H; exact H
                 clear H
                 have H := H1
                 clear H1
                 have H' := Aside0.mk H
                 clear H
                 have hcz41_0 := bc BK186 0
                 have hcz41_1 := bc BK186 1
                 have hcz41_2 := bc BK186 2
                 have hfz41_0 := blk_frozen BK186.out 0
                 have hfz41_1 := blk_frozen BK186.out 1
                 have hfz41_2 := blk_frozen BK186.out 2
                 have p190 : 0 ≤ (x4_2 : Int) := of_decide_eq_true (by first | (with_reducible assumption) | assumption)
                 have q190 : x4_2 < (l0_2.length : Int) := of_decide_eq_true (by first | (with_reducible assumption) | assumption)
                 obtain ⟨ad190, e190, hx190_0, hx190_1, hx190_2⟩ := at_T54 HR0_2.out x4_2 p190 q190
                 cases e190
                 replace hx190_0 := (HB.out.cell (World.block_lt_of_cell? w _ hx190_0)).trans hx190_0
                 replace hx190_1 := (HB.out.cell (World.block_lt_of_cell? w _ hx190_1)).trans hx190_1
                 replace hx190_2 := (HB.out.cell (World.block_lt_of_cell? w _ hx190_2)).trans hx190_2
                 replace p190 := eq_true p190
                 replace q190 := eq_true q190
                 try go_wp2_with (first | ((with_reducible refine gate_dst (N := 5) rfl ?_); refine box_event ?hg (N := 5) ?hd (cs := #[.int .i64 0, .int .i64 0, .int .i64 0]) (t := 54) ?hr ?_; (case hd => rfl); (case hg => rfl); (case hr => first | (go_simp; done) | (go_simp; rfl)); intro gb191 hg w42 hbox hb; have n0_ := kl BK186 hb; have n1_ := ls1 HB GE186 hb; have n2_ := Aside0.mk (hbox); have n3_ := Aside0.mk ((by rw [hg]; exact (below_size (lb1 HB GE186)) : w.heap.size ≤ gb191)); have n4_ := Aside0.mk ((by rw [hg]; exact (below_size (lb1 HB GE186)) : w.heap.size ≤ gb191)); have n5_ := kn BK186 hg; have n6_ := km BK186 hg; clear BK186; clear HB; have BK186 := n0_; have HB := n1_; have BK191 := n2_; have GW191 := n3_; have GE191 := n4_; have NB186_191 := n5_; have NB191_186 := n6_; clear n0_ n1_ n2_ n3_ n4_ n5_ n6_; clear hb hbox hg; have hnb43 := NB191_186.out; have hnc43 := NB186_191.out; have hcz44_0 := bc BK191 0; have hcz44_1 := bc BK191 1; have hcz44_2 := bc BK191 2; have hfz44_0 := blk_frozen BK191.out 0; have hfz44_1 := blk_frozen BK191.out 1; have hfz44_2 := blk_frozen BK191.out 2))
                 have n0_ : Aside0 ((((w42.setCell ⟨gb191, 0, none⟩ (.int .i64 ((rd_T54 l0_2 x4_2).f0))).setCell ⟨gb191, 1, none⟩ (.int .i64 ((rd_T54 l0_2 x4_2).f1))).setCell ⟨gb191, 2, none⟩ (.int .i64 ((rd_T54 l0_2 x4_2).f2))).heap[gb186]? = some (.cells #[.string a0_0, .int .i64 a0_1, .slice (some ad190) l0_2.length c0_2] 31 (0, 0))) := ⟨kf1 BK186 NB186_191⟩
                 have n1_ : Aside0 ((((w42.setCell ⟨gb191, 0, none⟩ (.int .i64 ((rd_T54 l0_2 x4_2).f0))).setCell ⟨gb191, 1, none⟩ (.int .i64 ((rd_T54 l0_2 x4_2).f1))).setCell ⟨gb191, 2, none⟩ (.int .i64 ((rd_T54 l0_2 x4_2).f2))).heap[gb191]? = some (.cells #[.int .i64 ((rd_T54 l0_2 x4_2).f0), .int .i64 ((rd_T54 l0_2 x4_2).f1), .int .i64 ((rd_T54 l0_2 x4_2).f2)] 54 (0, 0))) := ⟨by (with_reducible repeat (first | refine blk_drewN ?_ _ | refine blk_drew ?_ | refine blk_alloc ?_ _)); refine blk_put (cs := #[.int .i64 ((rd_T54 l0_2 x4_2).f0), .int .i64 ((rd_T54 l0_2 x4_2).f1), .int .i64 0]) ?_ 2 _ rfl; (with_reducible repeat (first | refine blk_drewN ?_ _ | refine blk_drew ?_ | refine blk_alloc ?_ _)); refine blk_put (cs := #[.int .i64 ((rd_T54 l0_2 x4_2).f0), .int .i64 0, .int .i64 0]) ?_ 1 _ rfl; (with_reducible repeat (first | refine blk_drewN ?_ _ | refine blk_drew ?_ | refine blk_alloc ?_ _)); refine blk_put (cs := #[.int .i64 0, .int .i64 0, .int .i64 0]) ?_ 0 _ rfl; (with_reducible repeat (first | refine blk_drewN ?_ _ | refine blk_drew ?_ | refine blk_alloc ?_ _)); exact BK191.out⟩
                 have n2_ : Aside0 (Below w.heap.size w (((w42.setCell ⟨gb191, 0, none⟩ (.int .i64 ((rd_T54 l0_2 x4_2).f0))).setCell ⟨gb191, 1, none⟩ (.int .i64 ((rd_T54 l0_2 x4_2).f1))).setCell ⟨gb191, 2, none⟩ (.int .i64 ((rd_T54 l0_2 x4_2).f2)))) := ⟨lb2 HB GE186 GE191⟩
                 (try clear BK186)
                 (try clear BK191)
                 (try clear HB)
                 generalize (((w42.setCell ⟨gb191, 0, none⟩ (.int .i64 ((rd_T54 l0_2 x4_2).f0))).setCell ⟨gb191, 1, none⟩ (.int .i64 ((rd_T54 l0_2 x4_2).f1))).setCell ⟨gb191, 2, none⟩ (.int .i64 ((rd_T54 l0_2 x4_2).f2))) = w45 at n0_ n1_ n2_ ⊢
                 have BK186 := n0_
                 have BK191 := n1_
                 have HB := n2_
                 clear n0_ n1_ n2_
                 have n0_ := Aside0.mk (blk_drew BK186.out)
                 have n1_ := Aside0.mk (blk_drew BK191.out)
                 have n2_ := Aside0.mk (below_drew1 HB.out)
                 clear BK186
                 clear BK191
                 clear HB
                 have BK186 := n0_
                 have BK191 := n1_
                 have HB := n2_
                 clear n0_ n1_ n2_
                 have p193 : 0 ≤ ((ji27) : Int) := of_decide_eq_true (by first | (with_reducible assumption) | assumption)
                 have q193 : (ji27) < (l0_2.length : Int) := of_decide_eq_true (by first | (with_reducible assumption) | assumption)
                 obtain ⟨ad193, e193, hx193_0, hx193_1, hx193_2⟩ := at_T54 HR0_2.out (ji27) p193 q193
                 have hw193_2 := hx193_2
                 have hw193_1 := hx193_1
                 have hw193_0 := hx193_0
                 obtain rfl : ad190 = ad193 := (by injection e193)
                 replace hx193_0 := (HB.out.cell (World.block_lt_of_cell? w _ hx193_0)).trans hx193_0
                 replace hx193_1 := (HB.out.cell (World.block_lt_of_cell? w _ hx193_1)).trans hx193_1
                 replace hx193_2 := (HB.out.cell (World.block_lt_of_cell? w _ hx193_2)).trans hx193_2
                 replace p193 := eq_true p193
                 replace q193 := eq_true q193
                 refine start_ (n := 37) (S := fun w' => w'.cell? ⟨gb191, 0, none⟩ = some (.int .i64 ((rd_T54 l0_2 x4_2).f0)) ∧ w'.cell? ⟨gb191, 1, none⟩ = some (.int .i64 ((rd_T54 l0_2 x4_2).f1)) ∧ w'.cell? ⟨gb191, 2, none⟩ = some (.int .i64 ((rd_T54 l0_2 x4_2).f2)) ∧ w'.cell? ⟨gb186, 0, none⟩ = some (.string a0_0) ∧ w'.cell? ⟨gb186, 1, none⟩ = some (.int .i64 a0_1) ∧ w'.cell? ⟨gb186, 2, none⟩ = some (.slice (some ad190) l0_2.length c0_2) ∧ w'.cell? (ad190.add (((ji27)).toNat * 3)) = some (.int .i64 ((rd_T54 l0_2 (ji27)).f0)) ∧ w'.cell? ⟨(ad190.add (((ji27)).toNat * 3)).block, (ad190.add (((ji27)).toNat * 3)).off + 1, none⟩ = some (.int .i64 ((rd_T54 l0_2 (ji27)).f1)) ∧ w'.cell? ⟨(ad190.add (((ji27)).toNat * 3)).block, (ad190.add (((ji27)).toNat * 3)).off + 2, none⟩ = some (.int .i64 ((rd_T54 l0_2 (ji27)).f2))) (ds := []) #[false, false, false, false, false, false, false, false, false, false, false, false, false, false, false, false, false, false, false, false, false, false, false, false, false, false, false, false, false, false, false, false, false, false, false, false, false] (by kernel_rfl) rfl rfl ⟨(blk_cell BK191.out 0).trans rfl, (blk_cell BK191.out 1).trans rfl, (blk_cell BK191.out 2).trans rfl, (blk_cell BK186.out 0).trans rfl, (blk_cell BK186.out 1).trans rfl, (blk_cell BK186.out 2).trans rfl, ((HB.out.cell (World.block_lt_of_cell? w _ hw193_0)).trans hw193_0), ((HB.out.cell (World.block_lt_of_cell? w _ hw193_1)).trans hw193_1), ((HB.out.cell (World.block_lt_of_cell? w _ hw193_2)).trans hw193_2)⟩ (fun hHeld => ?_); refine with_tabW crossbarref28_Check.tab10 crossbarref28_Check.bits10 (fun HT_ HW_ => ?_)
                 generalize w45.drew = w46 at BK186 BK191 HB hx193_0 hx193_1 hx193_2 hHeld ⊢
                 refine p_ 0 34 HT_ ?_
                 refine t_ 1 35 HT_ HW_ rfl rfl hHeld (by rintro w' ⟨s0, s1, s2, s3, s4, s5, s6, s7, s8⟩; go_simp; with_reducible rfl) ?_
                 refine p_ 2 36 HT_ ?_
                 refine p_ 3 37 HT_ ?_
                 refine p_ 4 38 HT_ ?_
                 refine t_ 5 39 HT_ HW_ rfl rfl hHeld (by rintro w' ⟨s0, s1, s2, s3, s4, s5, s6, s7, s8⟩; go_simp; with_reducible rfl) ?_
                 refine o_ 6 40 HT_ (fun K hK => ?_)
                 refine goes_ Tryd.func56 (by kernel_rfl) rfl #[.int .i64 ((rd_T54 l0_2 x4_2).f0)] (by rfl) rfl rfl (by (try simp only [List.map_toArray, List.map_cons, List.map_nil]); first | done | rfl | (simp only [List.length_drop, List.length_take]; rfl)) ?_
                 with_reducible refine (crossbarref28_within.calls ((rd_T54 l0_2 x4_2).f0) true _ A24.out).mono ?_
                 rintro e w' ⟨rfl, ⟨nd, rfl⟩⟩
                 refine ⟨_, rfl, ?_⟩
                 refine hK.out _ _ ⟨(blk_cell BK191.out 0).trans rfl, (blk_cell BK191.out 1).trans rfl, (blk_cell BK191.out 2).trans rfl, (blk_cell BK186.out 0).trans rfl, (blk_cell BK186.out 1).trans rfl, (blk_cell BK186.out 2).trans rfl, ((HB.out.cell (World.block_lt_of_cell? w _ hw193_0)).trans hw193_0), ((HB.out.cell (World.block_lt_of_cell? w _ hw193_1)).trans hw193_1), ((HB.out.cell (World.block_lt_of_cell? w _ hw193_2)).trans hw193_2)⟩ (fun hHeld => ?_)
                 clear hK K
                 refine n_ 40 ?_
                 refine p_ 7 41 HT_ ?_
                 refine p_ 8 42 HT_ ?_
                 refine p_ 9 43 HT_ ?_
                 refine p_ 10 44 HT_ ?_
                 refine p_ 11 45 HT_ ?_
                 refine p_ 12 46 HT_ ?_
                 refine p_ 13 47 HT_ ?_
                 refine p_ 15 49 HT_ ?_
                 refine p_ 16 50 HT_ ?_
                 refine p_ 20 54 HT_ ?_
                 refine t_ 14 48 HT_ HW_ rfl rfl hHeld (by rintro w' ⟨s0, s1, s2, s3, s4, s5, s6, s7, s8⟩; go_simp; with_reducible rfl) ?_
                 refine p_ 17 51 HT_ ?_
                 refine p_ 18 52 HT_ ?_
                 refine t_ 19 53 HT_ HW_ rfl rfl hHeld (by rintro w' ⟨s0, s1, s2, s3, s4, s5, s6, s7, s8⟩; go_simp; with_reducible rfl) ?_
                 refine t_ 21 55 HT_ HW_ rfl rfl hHeld (by rintro w' ⟨s0, s1, s2, s3, s4, s5, s6, s7, s8⟩; go_simp; with_reducible rfl) ?_
                 refine p_ 22 56 HT_ ?_
                 refine p_ 23 57 HT_ ?_
                 refine p_ 24 58 HT_ ?_
                 refine p_ 25 59 HT_ ?_
                 refine p_ 26 60 HT_ ?_
                 refine t_ 27 61 HT_ HW_ rfl rfl hHeld (by rintro w' ⟨s0, s1, s2, s3, s4, s5, s6, s7, s8⟩; go_simp; with_reducible rfl) ?_
                 refine o_ 28 62 HT_ (fun K hK => ?_)
                 refine goes_ Tryd.func56 (by kernel_rfl) rfl #[.int .i64 ((rd_T54 l0_2 x4_2).f1)] (by rfl) rfl rfl (by (try simp only [List.map_toArray, List.map_cons, List.map_nil]); first | done | rfl | (simp only [List.length_drop, List.length_take]; rfl)) ?_
                 with_reducible refine (crossbarref28_within.calls ((rd_T54 l0_2 x4_2).f1) true _ A37.out).mono ?_
                 rintro e w' ⟨rfl, ⟨nd, rfl⟩⟩
                 refine ⟨_, rfl, ?_⟩
                 refine hK.out _ _ ⟨(blk_cell BK191.out 0).trans rfl, (blk_cell BK191.out 1).trans rfl, (blk_cell BK191.out 2).trans rfl, (blk_cell BK186.out 0).trans rfl, (blk_cell BK186.out 1).trans rfl, (blk_cell BK186.out 2).trans rfl, ((HB.out.cell (World.block_lt_of_cell? w _ hw193_0)).trans hw193_0), ((HB.out.cell (World.block_lt_of_cell? w _ hw193_1)).trans hw193_1), ((HB.out.cell (World.block_lt_of_cell? w _ hw193_2)).trans hw193_2)⟩ (fun hHeld => ?_)
                 clear hK K
                 refine n_ 62 ?_
                 refine p_ 29 63 HT_ ?_
                 refine p_ 30 64 HT_ ?_
                 refine p_ 31 65 HT_ ?_
                 refine p_ 32 66 HT_ ?_
                 refine t_ 33 67 HT_ HW_ rfl rfl hHeld (by rintro w' ⟨s0, s1, s2, s3, s4, s5, s6, s7, s8⟩; go_simp; with_reducible rfl) ?_
                 refine o_ 34 68 HT_ (fun K hK => ?_)
                 refine goes_ Tryd.func56 (by kernel_rfl) rfl #[.int .i64 ((rd_T54 l0_2 x4_2).f2)] (by rfl) rfl rfl (by (try simp only [List.map_toArray, List.map_cons, List.map_nil]); first | done | rfl | (simp only [List.length_drop, List.length_take]; rfl)) ?_
                 with_reducible refine (crossbarref28_within.calls ((rd_T54 l0_2 x4_2).f2) true _ A39.out).mono ?_
                 rintro e w' ⟨rfl, ⟨nd, rfl⟩⟩
                 refine ⟨_, rfl, ?_⟩
                 refine hK.out _ _ ⟨(blk_cell BK191.out 0).trans rfl, (blk_cell BK191.out 1).trans rfl, (blk_cell BK191.out 2).trans rfl, (blk_cell BK186.out 0).trans rfl, (blk_cell BK186.out 1).trans rfl, (blk_cell BK186.out 2).trans rfl, ((HB.out.cell (World.block_lt_of_cell? w _ hw193_0)).trans hw193_0), ((HB.out.cell (World.block_lt_of_cell? w _ hw193_1)).trans hw193_1), ((HB.out.cell (World.block_lt_of_cell? w _ hw193_2)).trans hw193_2)⟩ (fun hHeld => ?_)
                 clear hK K
                 refine n_ 68 ?_
                 refine p_ 35 69 HT_ ?_
                 refine p_ 36 70 HT_ ?_
                 refine done_ (done_of HT_.out (by kernel_rfl)) ?_
                 have hcz47_0 := bc BK191 0
                 have hcz47_1 := bc BK191 1
                 have hcz47_2 := bc BK191 2
                 have hfz47_0 := blk_frozen BK191.out 0
                 have hfz47_1 := blk_frozen BK191.out 1
                 have hfz47_2 := blk_frozen BK191.out 2
                 try go_wp2
                 go_roundg k2
                 case measure => have := HJ4.out; have := HK2.out; omega
                 case rel => exact ⟨(wrap64 (x3_2 + ((rd_T54 l0_2 x4_2).f1))), (wrap64 (x4_2 + 1)), (by first | rfl | (simp; done) | (simp [*]; done)), (by first | rfl | (simp; done) | (simp [*]; done)), H', ⟨by have := HJ4.out; have := HK2.out; omega⟩, ⟨kb BK186⟩, ⟨lb2 HB GE186 GE191⟩⟩
                ·replace c40 := Bool.eq_false_iff.mpr c40
                 subst c40
                 have H1 : (some 1) = some r := by rw [if_neg (show ¬ (false = true) by decide)] at H; exact H
                 clear H
                 have H := H1
                 clear H1
                 obtain rfl := Option.some.inj H
                 have hcz48_0 := bc BK186 0
                 have hcz48_1 := bc BK186 1
                 have hcz48_2 := bc BK186 2
                 have hfz48_0 := blk_frozen BK186.out 0
                 have hfz48_1 := blk_frozen BK186.out 1
                 have hfz48_2 := blk_frozen BK186.out 2
                 have p190 : 0 ≤ (x4_2 : Int) := of_decide_eq_true (by first | (with_reducible assumption) | assumption)
                 have q190 : x4_2 < (l0_2.length : Int) := of_decide_eq_true (by first | (with_reducible assumption) | assumption)
                 obtain ⟨ad190, e190, hx190_0, hx190_1, hx190_2⟩ := at_T54 HR0_2.out x4_2 p190 q190
                 cases e190
                 replace hx190_0 := (HB.out.cell (World.block_lt_of_cell? w _ hx190_0)).trans hx190_0
                 replace hx190_1 := (HB.out.cell (World.block_lt_of_cell? w _ hx190_1)).trans hx190_1
                 replace hx190_2 := (HB.out.cell (World.block_lt_of_cell? w _ hx190_2)).trans hx190_2
                 replace p190 := eq_true p190
                 replace q190 := eq_true q190
                 try go_wp2_with (first | ((with_reducible refine gate_dst (N := 5) rfl ?_); refine box_event ?hg (N := 5) ?hd (cs := #[.int .i64 0, .int .i64 0, .int .i64 0]) (t := 54) ?hr ?_; (case hd => rfl); (case hg => rfl); (case hr => first | (go_simp; done) | (go_simp; rfl)); intro gb191 hg w49 hbox hb; have n0_ := kl BK186 hb; have n1_ := ls1 HB GE186 hb; have n2_ := Aside0.mk (hbox); have n3_ := Aside0.mk ((by rw [hg]; exact (below_size (lb1 HB GE186)) : w.heap.size ≤ gb191)); have n4_ := Aside0.mk ((by rw [hg]; exact (below_size (lb1 HB GE186)) : w.heap.size ≤ gb191)); have n5_ := kn BK186 hg; have n6_ := km BK186 hg; clear BK186; clear HB; have BK186 := n0_; have HB := n1_; have BK191 := n2_; have GW191 := n3_; have GE191 := n4_; have NB186_191 := n5_; have NB191_186 := n6_; clear n0_ n1_ n2_ n3_ n4_ n5_ n6_; clear hb hbox hg; have hnb50 := NB191_186.out; have hnc50 := NB186_191.out; have hcz51_0 := bc BK191 0; have hcz51_1 := bc BK191 1; have hcz51_2 := bc BK191 2; have hfz51_0 := blk_frozen BK191.out 0; have hfz51_1 := blk_frozen BK191.out 1; have hfz51_2 := blk_frozen BK191.out 2))
                 have n0_ : Aside0 ((((w49.setCell ⟨gb191, 0, none⟩ (.int .i64 ((rd_T54 l0_2 x4_2).f0))).setCell ⟨gb191, 1, none⟩ (.int .i64 ((rd_T54 l0_2 x4_2).f1))).setCell ⟨gb191, 2, none⟩ (.int .i64 ((rd_T54 l0_2 x4_2).f2))).heap[gb186]? = some (.cells #[.string a0_0, .int .i64 a0_1, .slice (some ad190) l0_2.length c0_2] 31 (0, 0))) := ⟨kf1 BK186 NB186_191⟩
                 have n1_ : Aside0 ((((w49.setCell ⟨gb191, 0, none⟩ (.int .i64 ((rd_T54 l0_2 x4_2).f0))).setCell ⟨gb191, 1, none⟩ (.int .i64 ((rd_T54 l0_2 x4_2).f1))).setCell ⟨gb191, 2, none⟩ (.int .i64 ((rd_T54 l0_2 x4_2).f2))).heap[gb191]? = some (.cells #[.int .i64 ((rd_T54 l0_2 x4_2).f0), .int .i64 ((rd_T54 l0_2 x4_2).f1), .int .i64 ((rd_T54 l0_2 x4_2).f2)] 54 (0, 0))) := ⟨by (with_reducible repeat (first | refine blk_drewN ?_ _ | refine blk_drew ?_ | refine blk_alloc ?_ _)); refine blk_put (cs := #[.int .i64 ((rd_T54 l0_2 x4_2).f0), .int .i64 ((rd_T54 l0_2 x4_2).f1), .int .i64 0]) ?_ 2 _ rfl; (with_reducible repeat (first | refine blk_drewN ?_ _ | refine blk_drew ?_ | refine blk_alloc ?_ _)); refine blk_put (cs := #[.int .i64 ((rd_T54 l0_2 x4_2).f0), .int .i64 0, .int .i64 0]) ?_ 1 _ rfl; (with_reducible repeat (first | refine blk_drewN ?_ _ | refine blk_drew ?_ | refine blk_alloc ?_ _)); refine blk_put (cs := #[.int .i64 0, .int .i64 0, .int .i64 0]) ?_ 0 _ rfl; (with_reducible repeat (first | refine blk_drewN ?_ _ | refine blk_drew ?_ | refine blk_alloc ?_ _)); exact BK191.out⟩
                 have n2_ : Aside0 (Below w.heap.size w (((w49.setCell ⟨gb191, 0, none⟩ (.int .i64 ((rd_T54 l0_2 x4_2).f0))).setCell ⟨gb191, 1, none⟩ (.int .i64 ((rd_T54 l0_2 x4_2).f1))).setCell ⟨gb191, 2, none⟩ (.int .i64 ((rd_T54 l0_2 x4_2).f2)))) := ⟨lb2 HB GE186 GE191⟩
                 (try clear BK186)
                 (try clear BK191)
                 (try clear HB)
                 generalize (((w49.setCell ⟨gb191, 0, none⟩ (.int .i64 ((rd_T54 l0_2 x4_2).f0))).setCell ⟨gb191, 1, none⟩ (.int .i64 ((rd_T54 l0_2 x4_2).f1))).setCell ⟨gb191, 2, none⟩ (.int .i64 ((rd_T54 l0_2 x4_2).f2))) = w52 at n0_ n1_ n2_ ⊢
                 have BK186 := n0_
                 have BK191 := n1_
                 have HB := n2_
                 clear n0_ n1_ n2_
                 have n0_ := Aside0.mk (blk_drew BK186.out)
                 have n1_ := Aside0.mk (blk_drew BK191.out)
                 have n2_ := Aside0.mk (below_drew1 HB.out)
                 clear BK186
                 clear BK191
                 clear HB
                 have BK186 := n0_
                 have BK191 := n1_
                 have HB := n2_
                 clear n0_ n1_ n2_
                 have p193 : 0 ≤ ((ji27) : Int) := of_decide_eq_true (by first | (with_reducible assumption) | assumption)
                 have q193 : (ji27) < (l0_2.length : Int) := of_decide_eq_true (by first | (with_reducible assumption) | assumption)
                 obtain ⟨ad193, e193, hx193_0, hx193_1, hx193_2⟩ := at_T54 HR0_2.out (ji27) p193 q193
                 have hw193_2 := hx193_2
                 have hw193_1 := hx193_1
                 have hw193_0 := hx193_0
                 obtain rfl : ad190 = ad193 := (by injection e193)
                 replace hx193_0 := (HB.out.cell (World.block_lt_of_cell? w _ hx193_0)).trans hx193_0
                 replace hx193_1 := (HB.out.cell (World.block_lt_of_cell? w _ hx193_1)).trans hx193_1
                 replace hx193_2 := (HB.out.cell (World.block_lt_of_cell? w _ hx193_2)).trans hx193_2
                 replace p193 := eq_true p193
                 replace q193 := eq_true q193
                 refine start_ (n := 37) (S := fun w' => w'.cell? ⟨gb191, 0, none⟩ = some (.int .i64 ((rd_T54 l0_2 x4_2).f0)) ∧ w'.cell? ⟨gb191, 1, none⟩ = some (.int .i64 ((rd_T54 l0_2 x4_2).f1)) ∧ w'.cell? ⟨gb191, 2, none⟩ = some (.int .i64 ((rd_T54 l0_2 x4_2).f2)) ∧ w'.cell? ⟨gb186, 0, none⟩ = some (.string a0_0) ∧ w'.cell? ⟨gb186, 1, none⟩ = some (.int .i64 a0_1) ∧ w'.cell? ⟨gb186, 2, none⟩ = some (.slice (some ad190) l0_2.length c0_2) ∧ w'.cell? (ad190.add (((ji27)).toNat * 3)) = some (.int .i64 ((rd_T54 l0_2 (ji27)).f0)) ∧ w'.cell? ⟨(ad190.add (((ji27)).toNat * 3)).block, (ad190.add (((ji27)).toNat * 3)).off + 1, none⟩ = some (.int .i64 ((rd_T54 l0_2 (ji27)).f1)) ∧ w'.cell? ⟨(ad190.add (((ji27)).toNat * 3)).block, (ad190.add (((ji27)).toNat * 3)).off + 2, none⟩ = some (.int .i64 ((rd_T54 l0_2 (ji27)).f2))) (ds := []) #[false, false, false, false, false, false, false, false, false, false, false, false, false, false, false, false, false, false, false, false, false, false, false, false, false, false, false, false, false, false, false, false, false, false, false, false, false] (by kernel_rfl) rfl rfl ⟨(blk_cell BK191.out 0).trans rfl, (blk_cell BK191.out 1).trans rfl, (blk_cell BK191.out 2).trans rfl, (blk_cell BK186.out 0).trans rfl, (blk_cell BK186.out 1).trans rfl, (blk_cell BK186.out 2).trans rfl, ((HB.out.cell (World.block_lt_of_cell? w _ hw193_0)).trans hw193_0), ((HB.out.cell (World.block_lt_of_cell? w _ hw193_1)).trans hw193_1), ((HB.out.cell (World.block_lt_of_cell? w _ hw193_2)).trans hw193_2)⟩ (fun hHeld => ?_); refine with_tabW crossbarref28_Check.tab10 crossbarref28_Check.bits10 (fun HT_ HW_ => ?_)
                 generalize w52.drew = w53 at BK186 BK191 HB hx193_0 hx193_1 hx193_2 hHeld ⊢
                 refine p_ 0 34 HT_ ?_
                 refine t_ 1 35 HT_ HW_ rfl rfl hHeld (by rintro w' ⟨s0, s1, s2, s3, s4, s5, s6, s7, s8⟩; go_simp; with_reducible rfl) ?_
                 refine p_ 2 36 HT_ ?_
                 refine p_ 3 37 HT_ ?_
                 refine p_ 4 38 HT_ ?_
                 refine t_ 5 39 HT_ HW_ rfl rfl hHeld (by rintro w' ⟨s0, s1, s2, s3, s4, s5, s6, s7, s8⟩; go_simp; with_reducible rfl) ?_
                 refine o_ 6 40 HT_ (fun K hK => ?_)
                 refine goes_ Tryd.func56 (by kernel_rfl) rfl #[.int .i64 ((rd_T54 l0_2 x4_2).f0)] (by rfl) rfl rfl (by (try simp only [List.map_toArray, List.map_cons, List.map_nil]); first | done | rfl | (simp only [List.length_drop, List.length_take]; rfl)) ?_
                 with_reducible refine (crossbarref28_within.calls ((rd_T54 l0_2 x4_2).f0) true _ A24.out).mono ?_
                 rintro e w' ⟨rfl, ⟨nd, rfl⟩⟩
                 refine ⟨_, rfl, ?_⟩
                 refine hK.out _ _ ⟨(blk_cell BK191.out 0).trans rfl, (blk_cell BK191.out 1).trans rfl, (blk_cell BK191.out 2).trans rfl, (blk_cell BK186.out 0).trans rfl, (blk_cell BK186.out 1).trans rfl, (blk_cell BK186.out 2).trans rfl, ((HB.out.cell (World.block_lt_of_cell? w _ hw193_0)).trans hw193_0), ((HB.out.cell (World.block_lt_of_cell? w _ hw193_1)).trans hw193_1), ((HB.out.cell (World.block_lt_of_cell? w _ hw193_2)).trans hw193_2)⟩ (fun hHeld => ?_)
                 clear hK K
                 refine n_ 40 ?_
                 refine p_ 7 41 HT_ ?_
                 refine p_ 8 42 HT_ ?_
                 refine p_ 9 43 HT_ ?_
                 refine p_ 10 44 HT_ ?_
                 refine p_ 11 45 HT_ ?_
                 refine p_ 12 46 HT_ ?_
                 refine p_ 13 47 HT_ ?_
                 refine p_ 15 49 HT_ ?_
                 refine p_ 16 50 HT_ ?_
                 refine p_ 20 54 HT_ ?_
                 refine t_ 14 48 HT_ HW_ rfl rfl hHeld (by rintro w' ⟨s0, s1, s2, s3, s4, s5, s6, s7, s8⟩; go_simp; with_reducible rfl) ?_
                 refine p_ 17 51 HT_ ?_
                 refine p_ 18 52 HT_ ?_
                 refine t_ 19 53 HT_ HW_ rfl rfl hHeld (by rintro w' ⟨s0, s1, s2, s3, s4, s5, s6, s7, s8⟩; go_simp; with_reducible rfl) ?_
                 refine t_ 21 55 HT_ HW_ rfl rfl hHeld (by rintro w' ⟨s0, s1, s2, s3, s4, s5, s6, s7, s8⟩; go_simp; with_reducible rfl) ?_
                 refine p_ 22 56 HT_ ?_
                 refine p_ 23 57 HT_ ?_
                 refine p_ 24 58 HT_ ?_
                 refine p_ 25 59 HT_ ?_
                 refine p_ 26 60 HT_ ?_
                 refine t_ 27 61 HT_ HW_ rfl rfl hHeld (by rintro w' ⟨s0, s1, s2, s3, s4, s5, s6, s7, s8⟩; go_simp; with_reducible rfl) ?_
                 refine o_ 28 62 HT_ (fun K hK => ?_)
                 refine goes_ Tryd.func56 (by kernel_rfl) rfl #[.int .i64 ((rd_T54 l0_2 x4_2).f1)] (by rfl) rfl rfl (by (try simp only [List.map_toArray, List.map_cons, List.map_nil]); first | done | rfl | (simp only [List.length_drop, List.length_take]; rfl)) ?_
                 with_reducible refine (crossbarref28_within.calls ((rd_T54 l0_2 x4_2).f1) true _ A37.out).mono ?_
                 rintro e w' ⟨rfl, ⟨nd, rfl⟩⟩
                 refine ⟨_, rfl, ?_⟩
                 refine hK.out _ _ ⟨(blk_cell BK191.out 0).trans rfl, (blk_cell BK191.out 1).trans rfl, (blk_cell BK191.out 2).trans rfl, (blk_cell BK186.out 0).trans rfl, (blk_cell BK186.out 1).trans rfl, (blk_cell BK186.out 2).trans rfl, ((HB.out.cell (World.block_lt_of_cell? w _ hw193_0)).trans hw193_0), ((HB.out.cell (World.block_lt_of_cell? w _ hw193_1)).trans hw193_1), ((HB.out.cell (World.block_lt_of_cell? w _ hw193_2)).trans hw193_2)⟩ (fun hHeld => ?_)
                 clear hK K
                 refine n_ 62 ?_
                 refine p_ 29 63 HT_ ?_
                 refine p_ 30 64 HT_ ?_
                 refine p_ 31 65 HT_ ?_
                 refine p_ 32 66 HT_ ?_
                 refine t_ 33 67 HT_ HW_ rfl rfl hHeld (by rintro w' ⟨s0, s1, s2, s3, s4, s5, s6, s7, s8⟩; go_simp; with_reducible rfl) ?_
                 refine o_ 34 68 HT_ (fun K hK => ?_)
                 refine goes_ Tryd.func56 (by kernel_rfl) rfl #[.int .i64 ((rd_T54 l0_2 x4_2).f2)] (by rfl) rfl rfl (by (try simp only [List.map_toArray, List.map_cons, List.map_nil]); first | done | rfl | (simp only [List.length_drop, List.length_take]; rfl)) ?_
                 with_reducible refine (crossbarref28_within.calls ((rd_T54 l0_2 x4_2).f2) false _ A39.out).mono ?_
                 rintro e w' ⟨rfl, ⟨nd, rfl⟩⟩
                 refine ⟨_, rfl, ?_⟩
                 refine hK.out _ _ ⟨(blk_cell BK191.out 0).trans rfl, (blk_cell BK191.out 1).trans rfl, (blk_cell BK191.out 2).trans rfl, (blk_cell BK186.out 0).trans rfl, (blk_cell BK186.out 1).trans rfl, (blk_cell BK186.out 2).trans rfl, ((HB.out.cell (World.block_lt_of_cell? w _ hw193_0)).trans hw193_0), ((HB.out.cell (World.block_lt_of_cell? w _ hw193_1)).trans hw193_1), ((HB.out.cell (World.block_lt_of_cell? w _ hw193_2)).trans hw193_2)⟩ (fun hHeld => ?_)
                 clear hK K
                 refine n_ 68 ?_
                 refine p_ 35 69 HT_ ?_
                 refine p_ 36 70 HT_ ?_
                 refine done_ (done_of HT_.out (by kernel_rfl)) ?_
                 try go_wp2
                 go_ret
                 exact ⟨by first | rfl | (simp [errW_none, errW_some] <;> rfl) | (simp only [← hji27]; first | rfl | (simp [errW_none, errW_some] <;> rfl)) | (simp [*, errW_none, errW_some] <;> rfl), lb2 HB GE186 GE191⟩
               ·replace c38 := Bool.eq_false_iff.mpr c38
                subst c38
                have H1 : (some 1) = some r := by rw [if_neg (show ¬ (false = true) by decide)] at H; exact H
                clear H
                have H := H1
                clear H1
                obtain rfl := Option.some.inj H
                have hcz54_0 := bc BK186 0
                have hcz54_1 := bc BK186 1
                have hcz54_2 := bc BK186 2
                have hfz54_0 := blk_frozen BK186.out 0
                have hfz54_1 := blk_frozen BK186.out 1
                have hfz54_2 := blk_frozen BK186.out 2
                have p190 : 0 ≤ (x4_2 : Int) := of_decide_eq_true (by first | (with_reducible assumption) | assumption)
                have q190 : x4_2 < (l0_2.length : Int) := of_decide_eq_true (by first | (with_reducible assumption) | assumption)
                obtain ⟨ad190, e190, hx190_0, hx190_1, hx190_2⟩ := at_T54 HR0_2.out x4_2 p190 q190
                cases e190
                replace hx190_0 := (HB.out.cell (World.block_lt_of_cell? w _ hx190_0)).trans hx190_0
                replace hx190_1 := (HB.out.cell (World.block_lt_of_cell? w _ hx190_1)).trans hx190_1
                replace hx190_2 := (HB.out.cell (World.block_lt_of_cell? w _ hx190_2)).trans hx190_2
                replace p190 := eq_true p190
                replace q190 := eq_true q190
                try go_wp2_with (first | ((with_reducible refine gate_dst (N := 5) rfl ?_); refine box_event ?hg (N := 5) ?hd (cs := #[.int .i64 0, .int .i64 0, .int .i64 0]) (t := 54) ?hr ?_; (case hd => rfl); (case hg => rfl); (case hr => first | (go_simp; done) | (go_simp; rfl)); intro gb191 hg w55 hbox hb; have n0_ := kl BK186 hb; have n1_ := ls1 HB GE186 hb; have n2_ := Aside0.mk (hbox); have n3_ := Aside0.mk ((by rw [hg]; exact (below_size (lb1 HB GE186)) : w.heap.size ≤ gb191)); have n4_ := Aside0.mk ((by rw [hg]; exact (below_size (lb1 HB GE186)) : w.heap.size ≤ gb191)); have n5_ := kn BK186 hg; have n6_ := km BK186 hg; clear BK186; clear HB; have BK186 := n0_; have HB := n1_; have BK191 := n2_; have GW191 := n3_; have GE191 := n4_; have NB186_191 := n5_; have NB191_186 := n6_; clear n0_ n1_ n2_ n3_ n4_ n5_ n6_; clear hb hbox hg; have hnb56 := NB191_186.out; have hnc56 := NB186_191.out; have hcz57_0 := bc BK191 0; have hcz57_1 := bc BK191 1; have hcz57_2 := bc BK191 2; have hfz57_0 := blk_frozen BK191.out 0; have hfz57_1 := blk_frozen BK191.out 1; have hfz57_2 := blk_frozen BK191.out 2))
                have n0_ : Aside0 ((((w55.setCell ⟨gb191, 0, none⟩ (.int .i64 ((rd_T54 l0_2 x4_2).f0))).setCell ⟨gb191, 1, none⟩ (.int .i64 ((rd_T54 l0_2 x4_2).f1))).setCell ⟨gb191, 2, none⟩ (.int .i64 ((rd_T54 l0_2 x4_2).f2))).heap[gb186]? = some (.cells #[.string a0_0, .int .i64 a0_1, .slice (some ad190) l0_2.length c0_2] 31 (0, 0))) := ⟨kf1 BK186 NB186_191⟩
                have n1_ : Aside0 ((((w55.setCell ⟨gb191, 0, none⟩ (.int .i64 ((rd_T54 l0_2 x4_2).f0))).setCell ⟨gb191, 1, none⟩ (.int .i64 ((rd_T54 l0_2 x4_2).f1))).setCell ⟨gb191, 2, none⟩ (.int .i64 ((rd_T54 l0_2 x4_2).f2))).heap[gb191]? = some (.cells #[.int .i64 ((rd_T54 l0_2 x4_2).f0), .int .i64 ((rd_T54 l0_2 x4_2).f1), .int .i64 ((rd_T54 l0_2 x4_2).f2)] 54 (0, 0))) := ⟨by (with_reducible repeat (first | refine blk_drewN ?_ _ | refine blk_drew ?_ | refine blk_alloc ?_ _)); refine blk_put (cs := #[.int .i64 ((rd_T54 l0_2 x4_2).f0), .int .i64 ((rd_T54 l0_2 x4_2).f1), .int .i64 0]) ?_ 2 _ rfl; (with_reducible repeat (first | refine blk_drewN ?_ _ | refine blk_drew ?_ | refine blk_alloc ?_ _)); refine blk_put (cs := #[.int .i64 ((rd_T54 l0_2 x4_2).f0), .int .i64 0, .int .i64 0]) ?_ 1 _ rfl; (with_reducible repeat (first | refine blk_drewN ?_ _ | refine blk_drew ?_ | refine blk_alloc ?_ _)); refine blk_put (cs := #[.int .i64 0, .int .i64 0, .int .i64 0]) ?_ 0 _ rfl; (with_reducible repeat (first | refine blk_drewN ?_ _ | refine blk_drew ?_ | refine blk_alloc ?_ _)); exact BK191.out⟩
                have n2_ : Aside0 (Below w.heap.size w (((w55.setCell ⟨gb191, 0, none⟩ (.int .i64 ((rd_T54 l0_2 x4_2).f0))).setCell ⟨gb191, 1, none⟩ (.int .i64 ((rd_T54 l0_2 x4_2).f1))).setCell ⟨gb191, 2, none⟩ (.int .i64 ((rd_T54 l0_2 x4_2).f2)))) := ⟨lb2 HB GE186 GE191⟩
                (try clear BK186)
                (try clear BK191)
                (try clear HB)
                generalize (((w55.setCell ⟨gb191, 0, none⟩ (.int .i64 ((rd_T54 l0_2 x4_2).f0))).setCell ⟨gb191, 1, none⟩ (.int .i64 ((rd_T54 l0_2 x4_2).f1))).setCell ⟨gb191, 2, none⟩ (.int .i64 ((rd_T54 l0_2 x4_2).f2))) = w58 at n0_ n1_ n2_ ⊢
                have BK186 := n0_
                have BK191 := n1_
                have HB := n2_
                clear n0_ n1_ n2_
                have n0_ := Aside0.mk (blk_drew BK186.out)
                have n1_ := Aside0.mk (blk_drew BK191.out)
                have n2_ := Aside0.mk (below_drew1 HB.out)
                clear BK186
                clear BK191
                clear HB
                have BK186 := n0_
                have BK191 := n1_
                have HB := n2_
                clear n0_ n1_ n2_
                have p193 : 0 ≤ ((ji27) : Int) := of_decide_eq_true (by first | (with_reducible assumption) | assumption)
                have q193 : (ji27) < (l0_2.length : Int) := of_decide_eq_true (by first | (with_reducible assumption) | assumption)
                obtain ⟨ad193, e193, hx193_0, hx193_1, hx193_2⟩ := at_T54 HR0_2.out (ji27) p193 q193
                have hw193_2 := hx193_2
                have hw193_1 := hx193_1
                have hw193_0 := hx193_0
                obtain rfl : ad190 = ad193 := (by injection e193)
                replace hx193_0 := (HB.out.cell (World.block_lt_of_cell? w _ hx193_0)).trans hx193_0
                replace hx193_1 := (HB.out.cell (World.block_lt_of_cell? w _ hx193_1)).trans hx193_1
                replace hx193_2 := (HB.out.cell (World.block_lt_of_cell? w _ hx193_2)).trans hx193_2
                replace p193 := eq_true p193
                replace q193 := eq_true q193
                refine start_ (n := 37) (S := fun w' => w'.cell? ⟨gb191, 0, none⟩ = some (.int .i64 ((rd_T54 l0_2 x4_2).f0)) ∧ w'.cell? ⟨gb191, 1, none⟩ = some (.int .i64 ((rd_T54 l0_2 x4_2).f1)) ∧ w'.cell? ⟨gb191, 2, none⟩ = some (.int .i64 ((rd_T54 l0_2 x4_2).f2)) ∧ w'.cell? ⟨gb186, 0, none⟩ = some (.string a0_0) ∧ w'.cell? ⟨gb186, 1, none⟩ = some (.int .i64 a0_1) ∧ w'.cell? ⟨gb186, 2, none⟩ = some (.slice (some ad190) l0_2.length c0_2) ∧ w'.cell? (ad190.add (((ji27)).toNat * 3)) = some (.int .i64 ((rd_T54 l0_2 (ji27)).f0)) ∧ w'.cell? ⟨(ad190.add (((ji27)).toNat * 3)).block, (ad190.add (((ji27)).toNat * 3)).off + 1, none⟩ = some (.int .i64 ((rd_T54 l0_2 (ji27)).f1)) ∧ w'.cell? ⟨(ad190.add (((ji27)).toNat * 3)).block, (ad190.add (((ji27)).toNat * 3)).off + 2, none⟩ = some (.int .i64 ((rd_T54 l0_2 (ji27)).f2))) (ds := []) #[false, false, false, false, false, false, false, false, false, false, false, false, false, false, false, false, false, false, false, false, false, false, false, false, false, false, false, false, false, false, false, false, false, false, false, false, false] (by kernel_rfl) rfl rfl ⟨(blk_cell BK191.out 0).trans rfl, (blk_cell BK191.out 1).trans rfl, (blk_cell BK191.out 2).trans rfl, (blk_cell BK186.out 0).trans rfl, (blk_cell BK186.out 1).trans rfl, (blk_cell BK186.out 2).trans rfl, ((HB.out.cell (World.block_lt_of_cell? w _ hw193_0)).trans hw193_0), ((HB.out.cell (World.block_lt_of_cell? w _ hw193_1)).trans hw193_1), ((HB.out.cell (World.block_lt_of_cell? w _ hw193_2)).trans hw193_2)⟩ (fun hHeld => ?_); refine with_tabW crossbarref28_Check.tab10 crossbarref28_Check.bits10 (fun HT_ HW_ => ?_)
                generalize w58.drew = w59 at BK186 BK191 HB hx193_0 hx193_1 hx193_2 hHeld ⊢
                refine p_ 0 34 HT_ ?_
                refine t_ 1 35 HT_ HW_ rfl rfl hHeld (by rintro w' ⟨s0, s1, s2, s3, s4, s5, s6, s7, s8⟩; go_simp; with_reducible rfl) ?_
                refine p_ 2 36 HT_ ?_
                refine p_ 3 37 HT_ ?_
                refine p_ 4 38 HT_ ?_
                refine t_ 5 39 HT_ HW_ rfl rfl hHeld (by rintro w' ⟨s0, s1, s2, s3, s4, s5, s6, s7, s8⟩; go_simp; with_reducible rfl) ?_
                refine o_ 6 40 HT_ (fun K hK => ?_)
                refine goes_ Tryd.func56 (by kernel_rfl) rfl #[.int .i64 ((rd_T54 l0_2 x4_2).f0)] (by rfl) rfl rfl (by (try simp only [List.map_toArray, List.map_cons, List.map_nil]); first | done | rfl | (simp only [List.length_drop, List.length_take]; rfl)) ?_
                with_reducible refine (crossbarref28_within.calls ((rd_T54 l0_2 x4_2).f0) true _ A24.out).mono ?_
                rintro e w' ⟨rfl, ⟨nd, rfl⟩⟩
                refine ⟨_, rfl, ?_⟩
                refine hK.out _ _ ⟨(blk_cell BK191.out 0).trans rfl, (blk_cell BK191.out 1).trans rfl, (blk_cell BK191.out 2).trans rfl, (blk_cell BK186.out 0).trans rfl, (blk_cell BK186.out 1).trans rfl, (blk_cell BK186.out 2).trans rfl, ((HB.out.cell (World.block_lt_of_cell? w _ hw193_0)).trans hw193_0), ((HB.out.cell (World.block_lt_of_cell? w _ hw193_1)).trans hw193_1), ((HB.out.cell (World.block_lt_of_cell? w _ hw193_2)).trans hw193_2)⟩ (fun hHeld => ?_)
                clear hK K
                refine n_ 40 ?_
                refine p_ 7 41 HT_ ?_
                refine p_ 8 42 HT_ ?_
                refine p_ 9 43 HT_ ?_
                refine p_ 10 44 HT_ ?_
                refine p_ 11 45 HT_ ?_
                refine p_ 12 46 HT_ ?_
                refine p_ 13 47 HT_ ?_
                refine p_ 15 49 HT_ ?_
                refine p_ 16 50 HT_ ?_
                refine p_ 20 54 HT_ ?_
                refine t_ 14 48 HT_ HW_ rfl rfl hHeld (by rintro w' ⟨s0, s1, s2, s3, s4, s5, s6, s7, s8⟩; go_simp; with_reducible rfl) ?_
                refine p_ 17 51 HT_ ?_
                refine p_ 18 52 HT_ ?_
                refine t_ 19 53 HT_ HW_ rfl rfl hHeld (by rintro w' ⟨s0, s1, s2, s3, s4, s5, s6, s7, s8⟩; go_simp; with_reducible rfl) ?_
                refine t_ 21 55 HT_ HW_ rfl rfl hHeld (by rintro w' ⟨s0, s1, s2, s3, s4, s5, s6, s7, s8⟩; go_simp; with_reducible rfl) ?_
                refine p_ 22 56 HT_ ?_
                refine p_ 23 57 HT_ ?_
                refine p_ 24 58 HT_ ?_
                refine p_ 25 59 HT_ ?_
                refine p_ 26 60 HT_ ?_
                refine t_ 27 61 HT_ HW_ rfl rfl hHeld (by rintro w' ⟨s0, s1, s2, s3, s4, s5, s6, s7, s8⟩; go_simp; with_reducible rfl) ?_
                refine o_ 28 62 HT_ (fun K hK => ?_)
                refine goes_ Tryd.func56 (by kernel_rfl) rfl #[.int .i64 ((rd_T54 l0_2 x4_2).f1)] (by rfl) rfl rfl (by (try simp only [List.map_toArray, List.map_cons, List.map_nil]); first | done | rfl | (simp only [List.length_drop, List.length_take]; rfl)) ?_
                with_reducible refine (crossbarref28_within.calls ((rd_T54 l0_2 x4_2).f1) false _ A37.out).mono ?_
                rintro e w' ⟨rfl, ⟨nd, rfl⟩⟩
                refine ⟨_, rfl, ?_⟩
                refine hK.out _ _ ⟨(blk_cell BK191.out 0).trans rfl, (blk_cell BK191.out 1).trans rfl, (blk_cell BK191.out 2).trans rfl, (blk_cell BK186.out 0).trans rfl, (blk_cell BK186.out 1).trans rfl, (blk_cell BK186.out 2).trans rfl, ((HB.out.cell (World.block_lt_of_cell? w _ hw193_0)).trans hw193_0), ((HB.out.cell (World.block_lt_of_cell? w _ hw193_1)).trans hw193_1), ((HB.out.cell (World.block_lt_of_cell? w _ hw193_2)).trans hw193_2)⟩ (fun hHeld => ?_)
                clear hK K
                refine n_ 62 ?_
                refine p_ 29 63 HT_ ?_
                refine p_ 30 64 HT_ ?_
                refine p_ 31 65 HT_ ?_
                refine q_ 32 66 HT_ ?_
                refine q_ 33 67 HT_ ?_
                refine q_ 34 68 HT_ ?_
                refine q_ 35 69 HT_ ?_
                refine p_ 36 70 HT_ ?_
                refine done_ (done_of HT_.out (by kernel_rfl)) ?_
                try go_wp2
                go_ret
                exact ⟨by first | rfl | (simp [errW_none, errW_some] <;> rfl) | (simp only [← hji27]; first | rfl | (simp [errW_none, errW_some] <;> rfl)) | (simp [*, errW_none, errW_some] <;> rfl), lb2 HB GE186 GE191⟩
             ·rw [if_neg c29] at H
              exact absurd H (by simp)
            ·rw [if_neg c28] at H
             exact absurd H (by simp)
           ·rw [if_neg c26] at H
            have c26b0 : decide (0 < x4_2) = false := decide_eq_false c26
            clear c26
            replace H := Option.bind_eq_some_iff.mp H
            obtain ⟨t196, A600, H⟩ := H
            replace H : (if t196 = true then ((crossbarref28_within.f ((rd_T54 l0_2 x4_2).f2)).bind fun t197 => (if t197 = true then (crossbarref28_Check.l0 k2 (wrap64 (x3_2 + ((rd_T54 l0_2 x4_2).f1))) (wrap64 (x4_2 + 1)) a0_0 a0_1 l0_2) else (some 1))) else (some 1)) = some r := H
            have A60 := Aside0.mk A600
            clear A600
            by_cases c61 : t196 = true
            ·subst c61
             have H1 : ((crossbarref28_within.f ((rd_T54 l0_2 x4_2).f2)).bind fun t197 => (if t197 = true then (crossbarref28_Check.l0 k2 (wrap64 (x3_2 + ((rd_T54 l0_2 x4_2).f1))) (wrap64 (x4_2 + 1)) a0_0 a0_1 l0_2) else (some 1))) = some r := by rw [if_pos rfl] at H; exact H
             clear H
             have H := H1
             clear H1
             replace H := Option.bind_eq_some_iff.mp H
             obtain ⟨t197, A620, H⟩ := H
             replace H : (if t197 = true then (crossbarref28_Check.l0 k2 (wrap64 (x3_2 + ((rd_T54 l0_2 x4_2).f1))) (wrap64 (x4_2 + 1)) a0_0 a0_1 l0_2) else (some 1)) = some r := H
             have A62 := Aside0.mk A620
             clear A620
             by_cases c63 : t197 = true
             ·subst c63
              have H1 : (crossbarref28_Check.l0 k2 (wrap64 (x3_2 + ((rd_T54 l0_2 x4_2).f1))) (wrap64 (x4_2 + 1)) a0_0 a0_1 l0_2) = some r := by rw [if_pos rfl] at H; exact H
              clear H
              have H := H1
              clear H1
              have H' := Aside0.mk H
              clear H
              have hcz64_0 := bc BK186 0
              have hcz64_1 := bc BK186 1
              have hcz64_2 := bc BK186 2
              have hfz64_0 := blk_frozen BK186.out 0
              have hfz64_1 := blk_frozen BK186.out 1
              have hfz64_2 := blk_frozen BK186.out 2
              have p190 : 0 ≤ (x4_2 : Int) := of_decide_eq_true (by first | (with_reducible assumption) | assumption)
              have q190 : x4_2 < (l0_2.length : Int) := of_decide_eq_true (by first | (with_reducible assumption) | assumption)
              obtain ⟨ad190, e190, hx190_0, hx190_1, hx190_2⟩ := at_T54 HR0_2.out x4_2 p190 q190
              cases e190
              replace hx190_0 := (HB.out.cell (World.block_lt_of_cell? w _ hx190_0)).trans hx190_0
              replace hx190_1 := (HB.out.cell (World.block_lt_of_cell? w _ hx190_1)).trans hx190_1
              replace hx190_2 := (HB.out.cell (World.block_lt_of_cell? w _ hx190_2)).trans hx190_2
              replace p190 := eq_true p190
              replace q190 := eq_true q190
              try go_wp2_with (first | ((with_reducible refine gate_dst (N := 5) rfl ?_); refine box_event ?hg (N := 5) ?hd (cs := #[.int .i64 0, .int .i64 0, .int .i64 0]) (t := 54) ?hr ?_; (case hd => rfl); (case hg => rfl); (case hr => first | (go_simp; done) | (go_simp; rfl)); intro gb191 hg w65 hbox hb; have n0_ := kl BK186 hb; have n1_ := ls1 HB GE186 hb; have n2_ := Aside0.mk (hbox); have n3_ := Aside0.mk ((by rw [hg]; exact (below_size (lb1 HB GE186)) : w.heap.size ≤ gb191)); have n4_ := Aside0.mk ((by rw [hg]; exact (below_size (lb1 HB GE186)) : w.heap.size ≤ gb191)); have n5_ := kn BK186 hg; have n6_ := km BK186 hg; clear BK186; clear HB; have BK186 := n0_; have HB := n1_; have BK191 := n2_; have GW191 := n3_; have GE191 := n4_; have NB186_191 := n5_; have NB191_186 := n6_; clear n0_ n1_ n2_ n3_ n4_ n5_ n6_; clear hb hbox hg; have hnb66 := NB191_186.out; have hnc66 := NB186_191.out; have hcz67_0 := bc BK191 0; have hcz67_1 := bc BK191 1; have hcz67_2 := bc BK191 2; have hfz67_0 := blk_frozen BK191.out 0; have hfz67_1 := blk_frozen BK191.out 1; have hfz67_2 := blk_frozen BK191.out 2))
              have n0_ : Aside0 ((((w65.setCell ⟨gb191, 0, none⟩ (.int .i64 ((rd_T54 l0_2 x4_2).f0))).setCell ⟨gb191, 1, none⟩ (.int .i64 ((rd_T54 l0_2 x4_2).f1))).setCell ⟨gb191, 2, none⟩ (.int .i64 ((rd_T54 l0_2 x4_2).f2))).heap[gb186]? = some (.cells #[.string a0_0, .int .i64 a0_1, .slice (some ad190) l0_2.length c0_2] 31 (0, 0))) := ⟨kf1 BK186 NB186_191⟩
              have n1_ : Aside0 ((((w65.setCell ⟨gb191, 0, none⟩ (.int .i64 ((rd_T54 l0_2 x4_2).f0))).setCell ⟨gb191, 1, none⟩ (.int .i64 ((rd_T54 l0_2 x4_2).f1))).setCell ⟨gb191, 2, none⟩ (.int .i64 ((rd_T54 l0_2 x4_2).f2))).heap[gb191]? = some (.cells #[.int .i64 ((rd_T54 l0_2 x4_2).f0), .int .i64 ((rd_T54 l0_2 x4_2).f1), .int .i64 ((rd_T54 l0_2 x4_2).f2)] 54 (0, 0))) := ⟨by (with_reducible repeat (first | refine blk_drewN ?_ _ | refine blk_drew ?_ | refine blk_alloc ?_ _)); refine blk_put (cs := #[.int .i64 ((rd_T54 l0_2 x4_2).f0), .int .i64 ((rd_T54 l0_2 x4_2).f1), .int .i64 0]) ?_ 2 _ rfl; (with_reducible repeat (first | refine blk_drewN ?_ _ | refine blk_drew ?_ | refine blk_alloc ?_ _)); refine blk_put (cs := #[.int .i64 ((rd_T54 l0_2 x4_2).f0), .int .i64 0, .int .i64 0]) ?_ 1 _ rfl; (with_reducible repeat (first | refine blk_drewN ?_ _ | refine blk_drew ?_ | refine blk_alloc ?_ _)); refine blk_put (cs := #[.int .i64 0, .int .i64 0, .int .i64 0]) ?_ 0 _ rfl; (with_reducible repeat (first | refine blk_drewN ?_ _ | refine blk_drew ?_ | refine blk_alloc ?_ _)); exact BK191.out⟩
              have n2_ : Aside0 (Below w.heap.size w (((w65.setCell ⟨gb191, 0, none⟩ (.int .i64 ((rd_T54 l0_2 x4_2).f0))).setCell ⟨gb191, 1, none⟩ (.int .i64 ((rd_T54 l0_2 x4_2).f1))).setCell ⟨gb191, 2, none⟩ (.int .i64 ((rd_T54 l0_2 x4_2).f2)))) := ⟨lb2 HB GE186 GE191⟩
              (try clear BK186)
              (try clear BK191)
              (try clear HB)
              generalize (((w65.setCell ⟨gb191, 0, none⟩ (.int .i64 ((rd_T54 l0_2 x4_2).f0))).setCell ⟨gb191, 1, none⟩ (.int .i64 ((rd_T54 l0_2 x4_2).f1))).setCell ⟨gb191, 2, none⟩ (.int .i64 ((rd_T54 l0_2 x4_2).f2))) = w68 at n0_ n1_ n2_ ⊢
              have BK186 := n0_
              have BK191 := n1_
              have HB := n2_
              clear n0_ n1_ n2_
              have n0_ := Aside0.mk (blk_drew BK186.out)
              have n1_ := Aside0.mk (blk_drew BK191.out)
              have n2_ := Aside0.mk (below_drew1 HB.out)
              clear BK186
              clear BK191
              clear HB
              have BK186 := n0_
              have BK191 := n1_
              have HB := n2_
              clear n0_ n1_ n2_
              refine start_ (n := 37) (S := fun w' => w'.cell? ⟨gb191, 0, none⟩ = some (.int .i64 ((rd_T54 l0_2 x4_2).f0)) ∧ w'.cell? ⟨gb191, 1, none⟩ = some (.int .i64 ((rd_T54 l0_2 x4_2).f1)) ∧ w'.cell? ⟨gb191, 2, none⟩ = some (.int .i64 ((rd_T54 l0_2 x4_2).f2))) (ds := []) #[false, false, false, false, false, false, false, false, false, false, false, false, false, false, false, false, false, false, false, false, false, false, false, false, false, false, false, false, false, false, false, false, false, false, false, false, false] (by kernel_rfl) rfl rfl ⟨(blk_cell BK191.out 0).trans rfl, (blk_cell BK191.out 1).trans rfl, (blk_cell BK191.out 2).trans rfl⟩ (fun hHeld => ?_); refine with_tabW crossbarref28_Check.tab10 crossbarref28_Check.bits10 (fun HT_ HW_ => ?_)
              generalize w68.drew = w69 at BK186 BK191 HB hHeld ⊢
              refine p_ 0 34 HT_ ?_
              refine t_ 1 35 HT_ HW_ rfl rfl hHeld (by rintro w' ⟨s0, s1, s2⟩; go_simp; with_reducible rfl) ?_
              refine p_ 2 36 HT_ ?_
              refine p_ 3 37 HT_ ?_
              refine p_ 4 38 HT_ ?_
              refine t_ 5 39 HT_ HW_ rfl rfl hHeld (by rintro w' ⟨s0, s1, s2⟩; go_simp; with_reducible rfl) ?_
              refine o_ 6 40 HT_ (fun K hK => ?_)
              refine goes_ Tryd.func56 (by kernel_rfl) rfl #[.int .i64 ((rd_T54 l0_2 x4_2).f0)] (by rfl) rfl rfl (by (try simp only [List.map_toArray, List.map_cons, List.map_nil]); first | done | rfl | (simp only [List.length_drop, List.length_take]; rfl)) ?_
              with_reducible refine (crossbarref28_within.calls ((rd_T54 l0_2 x4_2).f0) true _ A24.out).mono ?_
              rintro e w' ⟨rfl, ⟨nd, rfl⟩⟩
              refine ⟨_, rfl, ?_⟩
              refine hK.out _ _ ⟨(blk_cell BK191.out 0).trans rfl, (blk_cell BK191.out 1).trans rfl, (blk_cell BK191.out 2).trans rfl⟩ (fun hHeld => ?_)
              clear hK K
              refine n_ 40 ?_
              refine p_ 7 41 HT_ ?_
              refine p_ 8 42 HT_ ?_
              refine p_ 9 43 HT_ ?_
              refine p_ 10 44 HT_ ?_
              refine p_ 11 45 HT_ ?_
              refine p_ 12 46 HT_ ?_
              refine q_ 13 47 HT_ ?_
              refine q_ 14 48 HT_ ?_
              refine q_ 15 49 HT_ ?_
              refine q_ 16 50 HT_ ?_
              refine q_ 17 51 HT_ ?_
              refine q_ 18 52 HT_ ?_
              refine q_ 19 53 HT_ ?_
              refine q_ 20 54 HT_ ?_
              refine q_ 21 55 HT_ ?_
              refine q_ 22 56 HT_ ?_
              refine p_ 23 57 HT_ ?_
              refine p_ 24 58 HT_ ?_
              refine p_ 25 59 HT_ ?_
              refine p_ 26 60 HT_ ?_
              refine t_ 27 61 HT_ HW_ rfl rfl hHeld (by rintro w' ⟨s0, s1, s2⟩; go_simp; with_reducible rfl) ?_
              refine o_ 28 62 HT_ (fun K hK => ?_)
              refine goes_ Tryd.func56 (by kernel_rfl) rfl #[.int .i64 ((rd_T54 l0_2 x4_2).f1)] (by rfl) rfl rfl (by (try simp only [List.map_toArray, List.map_cons, List.map_nil]); first | done | rfl | (simp only [List.length_drop, List.length_take]; rfl)) ?_
              with_reducible refine (crossbarref28_within.calls ((rd_T54 l0_2 x4_2).f1) true _ A60.out).mono ?_
              rintro e w' ⟨rfl, ⟨nd, rfl⟩⟩
              refine ⟨_, rfl, ?_⟩
              refine hK.out _ _ ⟨(blk_cell BK191.out 0).trans rfl, (blk_cell BK191.out 1).trans rfl, (blk_cell BK191.out 2).trans rfl⟩ (fun hHeld => ?_)
              clear hK K
              refine n_ 62 ?_
              refine p_ 29 63 HT_ ?_
              refine p_ 30 64 HT_ ?_
              refine p_ 31 65 HT_ ?_
              refine p_ 32 66 HT_ ?_
              refine t_ 33 67 HT_ HW_ rfl rfl hHeld (by rintro w' ⟨s0, s1, s2⟩; go_simp; with_reducible rfl) ?_
              refine o_ 34 68 HT_ (fun K hK => ?_)
              refine goes_ Tryd.func56 (by kernel_rfl) rfl #[.int .i64 ((rd_T54 l0_2 x4_2).f2)] (by rfl) rfl rfl (by (try simp only [List.map_toArray, List.map_cons, List.map_nil]); first | done | rfl | (simp only [List.length_drop, List.length_take]; rfl)) ?_
              with_reducible refine (crossbarref28_within.calls ((rd_T54 l0_2 x4_2).f2) true _ A62.out).mono ?_
              rintro e w' ⟨rfl, ⟨nd, rfl⟩⟩
              refine ⟨_, rfl, ?_⟩
              refine hK.out _ _ ⟨(blk_cell BK191.out 0).trans rfl, (blk_cell BK191.out 1).trans rfl, (blk_cell BK191.out 2).trans rfl⟩ (fun hHeld => ?_)
              clear hK K
              refine n_ 68 ?_
              refine p_ 35 69 HT_ ?_
              refine p_ 36 70 HT_ ?_
              refine done_ (done_of HT_.out (by kernel_rfl)) ?_
              have hcz70_0 := bc BK191 0
              have hcz70_1 := bc BK191 1
              have hcz70_2 := bc BK191 2
              have hfz70_0 := blk_frozen BK191.out 0
              have hfz70_1 := blk_frozen BK191.out 1
              have hfz70_2 := blk_frozen BK191.out 2
              try go_wp2
              go_roundg k2
              case measure => have := HJ4.out; have := HK2.out; omega
              case rel => exact ⟨(wrap64 (x3_2 + ((rd_T54 l0_2 x4_2).f1))), (wrap64 (x4_2 + 1)), (by first | rfl | (simp; done) | (simp [*]; done)), (by first | rfl | (simp; done) | (simp [*]; done)), H', ⟨by have := HJ4.out; have := HK2.out; omega⟩, ⟨kb BK186⟩, ⟨lb2 HB GE186 GE191⟩⟩
             ·replace c63 := Bool.eq_false_iff.mpr c63
              subst c63
              have H1 : (some 1) = some r := by rw [if_neg (show ¬ (false = true) by decide)] at H; exact H
              clear H
              have H := H1
              clear H1
              obtain rfl := Option.some.inj H
              have hcz71_0 := bc BK186 0
              have hcz71_1 := bc BK186 1
              have hcz71_2 := bc BK186 2
              have hfz71_0 := blk_frozen BK186.out 0
              have hfz71_1 := blk_frozen BK186.out 1
              have hfz71_2 := blk_frozen BK186.out 2
              have p190 : 0 ≤ (x4_2 : Int) := of_decide_eq_true (by first | (with_reducible assumption) | assumption)
              have q190 : x4_2 < (l0_2.length : Int) := of_decide_eq_true (by first | (with_reducible assumption) | assumption)
              obtain ⟨ad190, e190, hx190_0, hx190_1, hx190_2⟩ := at_T54 HR0_2.out x4_2 p190 q190
              cases e190
              replace hx190_0 := (HB.out.cell (World.block_lt_of_cell? w _ hx190_0)).trans hx190_0
              replace hx190_1 := (HB.out.cell (World.block_lt_of_cell? w _ hx190_1)).trans hx190_1
              replace hx190_2 := (HB.out.cell (World.block_lt_of_cell? w _ hx190_2)).trans hx190_2
              replace p190 := eq_true p190
              replace q190 := eq_true q190
              try go_wp2_with (first | ((with_reducible refine gate_dst (N := 5) rfl ?_); refine box_event ?hg (N := 5) ?hd (cs := #[.int .i64 0, .int .i64 0, .int .i64 0]) (t := 54) ?hr ?_; (case hd => rfl); (case hg => rfl); (case hr => first | (go_simp; done) | (go_simp; rfl)); intro gb191 hg w72 hbox hb; have n0_ := kl BK186 hb; have n1_ := ls1 HB GE186 hb; have n2_ := Aside0.mk (hbox); have n3_ := Aside0.mk ((by rw [hg]; exact (below_size (lb1 HB GE186)) : w.heap.size ≤ gb191)); have n4_ := Aside0.mk ((by rw [hg]; exact (below_size (lb1 HB GE186)) : w.heap.size ≤ gb191)); have n5_ := kn BK186 hg; have n6_ := km BK186 hg; clear BK186; clear HB; have BK186 := n0_; have HB := n1_; have BK191 := n2_; have GW191 := n3_; have GE191 := n4_; have NB186_191 := n5_; have NB191_186 := n6_; clear n0_ n1_ n2_ n3_ n4_ n5_ n6_; clear hb hbox hg; have hnb73 := NB191_186.out; have hnc73 := NB186_191.out; have hcz74_0 := bc BK191 0; have hcz74_1 := bc BK191 1; have hcz74_2 := bc BK191 2; have hfz74_0 := blk_frozen BK191.out 0; have hfz74_1 := blk_frozen BK191.out 1; have hfz74_2 := blk_frozen BK191.out 2))
              have n0_ : Aside0 ((((w72.setCell ⟨gb191, 0, none⟩ (.int .i64 ((rd_T54 l0_2 x4_2).f0))).setCell ⟨gb191, 1, none⟩ (.int .i64 ((rd_T54 l0_2 x4_2).f1))).setCell ⟨gb191, 2, none⟩ (.int .i64 ((rd_T54 l0_2 x4_2).f2))).heap[gb186]? = some (.cells #[.string a0_0, .int .i64 a0_1, .slice (some ad190) l0_2.length c0_2] 31 (0, 0))) := ⟨kf1 BK186 NB186_191⟩
              have n1_ : Aside0 ((((w72.setCell ⟨gb191, 0, none⟩ (.int .i64 ((rd_T54 l0_2 x4_2).f0))).setCell ⟨gb191, 1, none⟩ (.int .i64 ((rd_T54 l0_2 x4_2).f1))).setCell ⟨gb191, 2, none⟩ (.int .i64 ((rd_T54 l0_2 x4_2).f2))).heap[gb191]? = some (.cells #[.int .i64 ((rd_T54 l0_2 x4_2).f0), .int .i64 ((rd_T54 l0_2 x4_2).f1), .int .i64 ((rd_T54 l0_2 x4_2).f2)] 54 (0, 0))) := ⟨by (with_reducible repeat (first | refine blk_drewN ?_ _ | refine blk_drew ?_ | refine blk_alloc ?_ _)); refine blk_put (cs := #[.int .i64 ((rd_T54 l0_2 x4_2).f0), .int .i64 ((rd_T54 l0_2 x4_2).f1), .int .i64 0]) ?_ 2 _ rfl; (with_reducible repeat (first | refine blk_drewN ?_ _ | refine blk_drew ?_ | refine blk_alloc ?_ _)); refine blk_put (cs := #[.int .i64 ((rd_T54 l0_2 x4_2).f0), .int .i64 0, .int .i64 0]) ?_ 1 _ rfl; (with_reducible repeat (first | refine blk_drewN ?_ _ | refine blk_drew ?_ | refine blk_alloc ?_ _)); refine blk_put (cs := #[.int .i64 0, .int .i64 0, .int .i64 0]) ?_ 0 _ rfl; (with_reducible repeat (first | refine blk_drewN ?_ _ | refine blk_drew ?_ | refine blk_alloc ?_ _)); exact BK191.out⟩
              have n2_ : Aside0 (Below w.heap.size w (((w72.setCell ⟨gb191, 0, none⟩ (.int .i64 ((rd_T54 l0_2 x4_2).f0))).setCell ⟨gb191, 1, none⟩ (.int .i64 ((rd_T54 l0_2 x4_2).f1))).setCell ⟨gb191, 2, none⟩ (.int .i64 ((rd_T54 l0_2 x4_2).f2)))) := ⟨lb2 HB GE186 GE191⟩
              (try clear BK186)
              (try clear BK191)
              (try clear HB)
              generalize (((w72.setCell ⟨gb191, 0, none⟩ (.int .i64 ((rd_T54 l0_2 x4_2).f0))).setCell ⟨gb191, 1, none⟩ (.int .i64 ((rd_T54 l0_2 x4_2).f1))).setCell ⟨gb191, 2, none⟩ (.int .i64 ((rd_T54 l0_2 x4_2).f2))) = w75 at n0_ n1_ n2_ ⊢
              have BK186 := n0_
              have BK191 := n1_
              have HB := n2_
              clear n0_ n1_ n2_
              have n0_ := Aside0.mk (blk_drew BK186.out)
              have n1_ := Aside0.mk (blk_drew BK191.out)
              have n2_ := Aside0.mk (below_drew1 HB.out)
              clear BK186
              clear BK191
              clear HB
              have BK186 := n0_
              have BK191 := n1_
              have HB := n2_
              clear n0_ n1_ n2_
              refine start_ (n := 37) (S := fun w' => w'.cell? ⟨gb191, 0, none⟩ = some (.int .i64 ((rd_T54 l0_2 x4_2).f0)) ∧ w'.cell? ⟨gb191, 1, none⟩ = some (.int .i64 ((rd_T54 l0_2 x4_2).f1)) ∧ w'.cell? ⟨gb191, 2, none⟩ = some (.int .i64 ((rd_T54 l0_2 x4_2).f2))) (ds := []) #[false, false, false, false, false, false, false, false, false, false, false, false, false, false, false, false, false, false, false, false, false, false, false, false, false, false, false, false, false, false, false, false, false, false, false, false, false] (by kernel_rfl) rfl rfl ⟨(blk_cell BK191.out 0).trans rfl, (blk_cell BK191.out 1).trans rfl, (blk_cell BK191.out 2).trans rfl⟩ (fun hHeld => ?_); refine with_tabW crossbarref28_Check.tab10 crossbarref28_Check.bits10 (fun HT_ HW_ => ?_)
              generalize w75.drew = w76 at BK186 BK191 HB hHeld ⊢
              refine p_ 0 34 HT_ ?_
              refine t_ 1 35 HT_ HW_ rfl rfl hHeld (by rintro w' ⟨s0, s1, s2⟩; go_simp; with_reducible rfl) ?_
              refine p_ 2 36 HT_ ?_
              refine p_ 3 37 HT_ ?_
              refine p_ 4 38 HT_ ?_
              refine t_ 5 39 HT_ HW_ rfl rfl hHeld (by rintro w' ⟨s0, s1, s2⟩; go_simp; with_reducible rfl) ?_
              refine o_ 6 40 HT_ (fun K hK => ?_)
              refine goes_ Tryd.func56 (by kernel_rfl) rfl #[.int .i64 ((rd_T54 l0_2 x4_2).f0)] (by rfl) rfl rfl (by (try simp only [List.map_toArray, List.map_cons, List.map_nil]); first | done | rfl | (simp only [List.length_drop, List.length_take]; rfl)) ?_
              with_reducible refine (crossbarref28_within.calls ((rd_T54 l0_2 x4_2).f0) true _ A24.out).mono ?_
              rintro e w' ⟨rfl, ⟨nd, rfl⟩⟩
              refine ⟨_, rfl, ?_⟩
              refine hK.out _ _ ⟨(blk_cell BK191.out 0).trans rfl, (blk_cell BK191.out 1).trans rfl, (blk_cell BK191.out 2).trans rfl⟩ (fun hHeld => ?_)
              clear hK K
              refine n_ 40 ?_
              refine p_ 7 41 HT_ ?_
              refine p_ 8 42 HT_ ?_
              refine p_ 9 43 HT_ ?_
              refine p_ 10 44 HT_ ?_
              refine p_ 11 45 HT_ ?_
              refine p_ 12 46 HT_ ?_
              refine q_ 13 47 HT_ ?_
              refine q_ 14 48 HT_ ?_
              refine q_ 15 49 HT_ ?_
              refine q_ 16 50 HT_ ?_
              refine q_ 17 51 HT_ ?_
              refine q_ 18 52 HT_ ?_
              refine q_ 19 53 HT_ ?_
              refine q_ 20 54 HT_ ?_
              refine q_ 21 55 HT_ ?_
              refine q_ 22 56 HT_ ?_
              refine p_ 23 57 HT_ ?_
              refine p_ 24 58 HT_ ?_
              refine p_ 25 59 HT_ ?_
              refine p_ 26 60 HT_ ?_
              refine t_ 27 61 HT_ HW_ rfl rfl hHeld (by rintro w' ⟨s0, s1, s2⟩; go_simp; with_reducible rfl) ?_
              refine o_ 28 62 HT_ (fun K hK => ?_)
              refine goes_ Tryd.func56 (by kernel_rfl) rfl #[.int .i64 ((rd_T54 l0_2 x4_2).f1)] (by rfl) rfl rfl (by (try simp only [List.map_toArray, List.map_cons, List.map_nil]); first | done | rfl | (simp only [List.length_drop, List.length_take]; rfl)) ?_
              with_reducible refine (crossbarref28_within.calls ((rd_T54 l0_2 x4_2).f1) true _ A60.out).mono ?_
              rintro e w' ⟨rfl, ⟨nd, rfl⟩⟩
              refine ⟨_, rfl, ?_⟩
              refine hK.out _ _ ⟨(blk_cell BK191.out 0).trans rfl, (blk_cell BK191.out 1).trans rfl, (blk_cell BK191.out 2).trans rfl⟩ (fun hHeld => ?_)
              clear hK K
              refine n_ 62 ?_
              refine p_ 29 63 HT_ ?_
              refine p_ 30 64 HT_ ?_
              refine p_ 31 65 HT_ ?_
              refine p_ 32 66 HT_ ?_
              refine t_ 33 67 HT_ HW_ rfl rfl hHeld (by rintro w' ⟨s0, s1, s2⟩; go_simp; with_reducible rfl) ?_
              refine o_ 34 68 HT_ (fun K hK => ?_)
              refine goes_ Tryd.func56 (by kernel_rfl) rfl #[.int .i64 ((rd_T54 l0_2 x4_2).f2)] (by rfl) rfl rfl (by (try simp only [List.map_toArray, List.map_cons, List.map_nil]); first | done | rfl | (simp only [List.length_drop, List.length_take]; rfl)) ?_
              with_reducible refine (crossbarref28_within.calls ((rd_T54 l0_2 x4_2).f2) false _ A62.out).mono ?_
              rintro e w' ⟨rfl, ⟨nd, rfl⟩⟩
              refine ⟨_, rfl, ?_⟩
              refine hK.out _ _ ⟨(blk_cell BK191.out 0).trans rfl, (blk_cell BK191.out 1).trans rfl, (blk_cell BK191.out 2).trans rfl⟩ (fun hHeld => ?_)
              clear hK K
              refine n_ 68 ?_
              refine p_ 35 69 HT_ ?_
              refine p_ 36 70 HT_ ?_
              refine done_ (done_of HT_.out (by kernel_rfl)) ?_
              try go_wp2
              go_ret
              exact ⟨by first | rfl | (simp [errW_none, errW_some] <;> rfl) | (simp [*, errW_none, errW_some] <;> rfl), lb2 HB GE186 GE191⟩
            ·replace c61 := Bool.eq_false_iff.mpr c61
             subst c61
             have H1 : (some 1) = some r := by rw [if_neg (show ¬ (false = true) by decide)] at H; exact H
             clear H
             have H := H1
             clear H1
             obtain rfl := Option.some.inj H
             have hcz77_0 := bc BK186 0
             have hcz77_1 := bc BK186 1
             have hcz77_2 := bc BK186 2
             have hfz77_0 := blk_frozen BK186.out 0
             have hfz77_1 := blk_frozen BK186.out 1
             have hfz77_2 := blk_frozen BK186.out 2
             have p190 : 0 ≤ (x4_2 : Int) := of_decide_eq_true (by first | (with_reducible assumption) | assumption)
             have q190 : x4_2 < (l0_2.length : Int) := of_decide_eq_true (by first | (with_reducible assumption) | assumption)
             obtain ⟨ad190, e190, hx190_0, hx190_1, hx190_2⟩ := at_T54 HR0_2.out x4_2 p190 q190
             cases e190
             replace hx190_0 := (HB.out.cell (World.block_lt_of_cell? w _ hx190_0)).trans hx190_0
             replace hx190_1 := (HB.out.cell (World.block_lt_of_cell? w _ hx190_1)).trans hx190_1
             replace hx190_2 := (HB.out.cell (World.block_lt_of_cell? w _ hx190_2)).trans hx190_2
             replace p190 := eq_true p190
             replace q190 := eq_true q190
             try go_wp2_with (first | ((with_reducible refine gate_dst (N := 5) rfl ?_); refine box_event ?hg (N := 5) ?hd (cs := #[.int .i64 0, .int .i64 0, .int .i64 0]) (t := 54) ?hr ?_; (case hd => rfl); (case hg => rfl); (case hr => first | (go_simp; done) | (go_simp; rfl)); intro gb191 hg w78 hbox hb; have n0_ := kl BK186 hb; have n1_ := ls1 HB GE186 hb; have n2_ := Aside0.mk (hbox); have n3_ := Aside0.mk ((by rw [hg]; exact (below_size (lb1 HB GE186)) : w.heap.size ≤ gb191)); have n4_ := Aside0.mk ((by rw [hg]; exact (below_size (lb1 HB GE186)) : w.heap.size ≤ gb191)); have n5_ := kn BK186 hg; have n6_ := km BK186 hg; clear BK186; clear HB; have BK186 := n0_; have HB := n1_; have BK191 := n2_; have GW191 := n3_; have GE191 := n4_; have NB186_191 := n5_; have NB191_186 := n6_; clear n0_ n1_ n2_ n3_ n4_ n5_ n6_; clear hb hbox hg; have hnb79 := NB191_186.out; have hnc79 := NB186_191.out; have hcz80_0 := bc BK191 0; have hcz80_1 := bc BK191 1; have hcz80_2 := bc BK191 2; have hfz80_0 := blk_frozen BK191.out 0; have hfz80_1 := blk_frozen BK191.out 1; have hfz80_2 := blk_frozen BK191.out 2))
             have n0_ : Aside0 ((((w78.setCell ⟨gb191, 0, none⟩ (.int .i64 ((rd_T54 l0_2 x4_2).f0))).setCell ⟨gb191, 1, none⟩ (.int .i64 ((rd_T54 l0_2 x4_2).f1))).setCell ⟨gb191, 2, none⟩ (.int .i64 ((rd_T54 l0_2 x4_2).f2))).heap[gb186]? = some (.cells #[.string a0_0, .int .i64 a0_1, .slice (some ad190) l0_2.length c0_2] 31 (0, 0))) := ⟨kf1 BK186 NB186_191⟩
             have n1_ : Aside0 ((((w78.setCell ⟨gb191, 0, none⟩ (.int .i64 ((rd_T54 l0_2 x4_2).f0))).setCell ⟨gb191, 1, none⟩ (.int .i64 ((rd_T54 l0_2 x4_2).f1))).setCell ⟨gb191, 2, none⟩ (.int .i64 ((rd_T54 l0_2 x4_2).f2))).heap[gb191]? = some (.cells #[.int .i64 ((rd_T54 l0_2 x4_2).f0), .int .i64 ((rd_T54 l0_2 x4_2).f1), .int .i64 ((rd_T54 l0_2 x4_2).f2)] 54 (0, 0))) := ⟨by (with_reducible repeat (first | refine blk_drewN ?_ _ | refine blk_drew ?_ | refine blk_alloc ?_ _)); refine blk_put (cs := #[.int .i64 ((rd_T54 l0_2 x4_2).f0), .int .i64 ((rd_T54 l0_2 x4_2).f1), .int .i64 0]) ?_ 2 _ rfl; (with_reducible repeat (first | refine blk_drewN ?_ _ | refine blk_drew ?_ | refine blk_alloc ?_ _)); refine blk_put (cs := #[.int .i64 ((rd_T54 l0_2 x4_2).f0), .int .i64 0, .int .i64 0]) ?_ 1 _ rfl; (with_reducible repeat (first | refine blk_drewN ?_ _ | refine blk_drew ?_ | refine blk_alloc ?_ _)); refine blk_put (cs := #[.int .i64 0, .int .i64 0, .int .i64 0]) ?_ 0 _ rfl; (with_reducible repeat (first | refine blk_drewN ?_ _ | refine blk_drew ?_ | refine blk_alloc ?_ _)); exact BK191.out⟩
             have n2_ : Aside0 (Below w.heap.size w (((w78.setCell ⟨gb191, 0, none⟩ (.int .i64 ((rd_T54 l0_2 x4_2).f0))).setCell ⟨gb191, 1, none⟩ (.int .i64 ((rd_T54 l0_2 x4_2).f1))).setCell ⟨gb191, 2, none⟩ (.int .i64 ((rd_T54 l0_2 x4_2).f2)))) := ⟨lb2 HB GE186 GE191⟩
             (try clear BK186)
             (try clear BK191)
             (try clear HB)
             generalize (((w78.setCell ⟨gb191, 0, none⟩ (.int .i64 ((rd_T54 l0_2 x4_2).f0))).setCell ⟨gb191, 1, none⟩ (.int .i64 ((rd_T54 l0_2 x4_2).f1))).setCell ⟨gb191, 2, none⟩ (.int .i64 ((rd_T54 l0_2 x4_2).f2))) = w81 at n0_ n1_ n2_ ⊢
             have BK186 := n0_
             have BK191 := n1_
             have HB := n2_
             clear n0_ n1_ n2_
             have n0_ := Aside0.mk (blk_drew BK186.out)
             have n1_ := Aside0.mk (blk_drew BK191.out)
             have n2_ := Aside0.mk (below_drew1 HB.out)
             clear BK186
             clear BK191
             clear HB
             have BK186 := n0_
             have BK191 := n1_
             have HB := n2_
             clear n0_ n1_ n2_
             refine start_ (n := 37) (S := fun w' => w'.cell? ⟨gb191, 0, none⟩ = some (.int .i64 ((rd_T54 l0_2 x4_2).f0)) ∧ w'.cell? ⟨gb191, 1, none⟩ = some (.int .i64 ((rd_T54 l0_2 x4_2).f1)) ∧ w'.cell? ⟨gb191, 2, none⟩ = some (.int .i64 ((rd_T54 l0_2 x4_2).f2))) (ds := []) #[false, false, false, false, false, false, false, false, false, false, false, false, false, false, false, false, false, false, false, false, false, false, false, false, false, false, false, false, false, false, false, false, false, false, false, false, false] (by kernel_rfl) rfl rfl ⟨(blk_cell BK191.out 0).trans rfl, (blk_cell BK191.out 1).trans rfl, (blk_cell BK191.out 2).trans rfl⟩ (fun hHeld => ?_); refine with_tabW crossbarref28_Check.tab10 crossbarref28_Check.bits10 (fun HT_ HW_ => ?_)
             generalize w81.drew = w82 at BK186 BK191 HB hHeld ⊢
             refine p_ 0 34 HT_ ?_
             refine t_ 1 35 HT_ HW_ rfl rfl hHeld (by rintro w' ⟨s0, s1, s2⟩; go_simp; with_reducible rfl) ?_
             refine p_ 2 36 HT_ ?_
             refine p_ 3 37 HT_ ?_
             refine p_ 4 38 HT_ ?_
             refine t_ 5 39 HT_ HW_ rfl rfl hHeld (by rintro w' ⟨s0, s1, s2⟩; go_simp; with_reducible rfl) ?_
             refine o_ 6 40 HT_ (fun K hK => ?_)
             refine goes_ Tryd.func56 (by kernel_rfl) rfl #[.int .i64 ((rd_T54 l0_2 x4_2).f0)] (by rfl) rfl rfl (by (try simp only [List.map_toArray, List.map_cons, List.map_nil]); first | done | rfl | (simp only [List.length_drop, List.length_take]; rfl)) ?_
             with_reducible refine (crossbarref28_within.calls ((rd_T54 l0_2 x4_2).f0) true _ A24.out).mono ?_
             rintro e w' ⟨rfl, ⟨nd, rfl⟩⟩
             refine ⟨_, rfl, ?_⟩
             refine hK.out _ _ ⟨(blk_cell BK191.out 0).trans rfl, (blk_cell BK191.out 1).trans rfl, (blk_cell BK191.out 2).trans rfl⟩ (fun hHeld => ?_)
             clear hK K
             refine n_ 40 ?_
             refine p_ 7 41 HT_ ?_
             refine p_ 8 42 HT_ ?_
             refine p_ 9 43 HT_ ?_
             refine p_ 10 44 HT_ ?_
             refine p_ 11 45 HT_ ?_
             refine p_ 12 46 HT_ ?_
             refine q_ 13 47 HT_ ?_
             refine q_ 14 48 HT_ ?_
             refine q_ 15 49 HT_ ?_
             refine q_ 16 50 HT_ ?_
             refine q_ 17 51 HT_ ?_
             refine q_ 18 52 HT_ ?_
             refine q_ 19 53 HT_ ?_
             refine q_ 20 54 HT_ ?_
             refine q_ 21 55 HT_ ?_
             refine q_ 22 56 HT_ ?_
             refine p_ 23 57 HT_ ?_
             refine p_ 24 58 HT_ ?_
             refine p_ 25 59 HT_ ?_
             refine p_ 26 60 HT_ ?_
             refine t_ 27 61 HT_ HW_ rfl rfl hHeld (by rintro w' ⟨s0, s1, s2⟩; go_simp; with_reducible rfl) ?_
             refine o_ 28 62 HT_ (fun K hK => ?_)
             refine goes_ Tryd.func56 (by kernel_rfl) rfl #[.int .i64 ((rd_T54 l0_2 x4_2).f1)] (by rfl) rfl rfl (by (try simp only [List.map_toArray, List.map_cons, List.map_nil]); first | done | rfl | (simp only [List.length_drop, List.length_take]; rfl)) ?_
             with_reducible refine (crossbarref28_within.calls ((rd_T54 l0_2 x4_2).f1) false _ A60.out).mono ?_
             rintro e w' ⟨rfl, ⟨nd, rfl⟩⟩
             refine ⟨_, rfl, ?_⟩
             refine hK.out _ _ ⟨(blk_cell BK191.out 0).trans rfl, (blk_cell BK191.out 1).trans rfl, (blk_cell BK191.out 2).trans rfl⟩ (fun hHeld => ?_)
             clear hK K
             refine n_ 62 ?_
             refine p_ 29 63 HT_ ?_
             refine p_ 30 64 HT_ ?_
             refine p_ 31 65 HT_ ?_
             refine q_ 32 66 HT_ ?_
             refine q_ 33 67 HT_ ?_
             refine q_ 34 68 HT_ ?_
             refine q_ 35 69 HT_ ?_
             refine p_ 36 70 HT_ ?_
             refine done_ (done_of HT_.out (by kernel_rfl)) ?_
             try go_wp2
             go_ret
             exact ⟨by first | rfl | (simp [errW_none, errW_some] <;> rfl) | (simp [*, errW_none, errW_some] <;> rfl), lb2 HB GE186 GE191⟩
          ·replace c25 := Bool.eq_false_iff.mpr c25
           subst c25
           have H1 : (some 1) = some r := by rw [if_neg (show ¬ (false = true) by decide)] at H; exact H
           clear H
           have H := H1
           clear H1
           obtain rfl := Option.some.inj H
           have hcz83_0 := bc BK186 0
           have hcz83_1 := bc BK186 1
           have hcz83_2 := bc BK186 2
           have hfz83_0 := blk_frozen BK186.out 0
           have hfz83_1 := blk_frozen BK186.out 1
           have hfz83_2 := blk_frozen BK186.out 2
           have p190 : 0 ≤ (x4_2 : Int) := of_decide_eq_true (by first | (with_reducible assumption) | assumption)
           have q190 : x4_2 < (l0_2.length : Int) := of_decide_eq_true (by first | (with_reducible assumption) | assumption)
           obtain ⟨ad190, e190, hx190_0, hx190_1, hx190_2⟩ := at_T54 HR0_2.out x4_2 p190 q190
           cases e190
           replace hx190_0 := (HB.out.cell (World.block_lt_of_cell? w _ hx190_0)).trans hx190_0
           replace hx190_1 := (HB.out.cell (World.block_lt_of_cell? w _ hx190_1)).trans hx190_1
           replace hx190_2 := (HB.out.cell (World.block_lt_of_cell? w _ hx190_2)).trans hx190_2
           replace p190 := eq_true p190
           replace q190 := eq_true q190
           try go_wp2_with (first | ((with_reducible refine gate_dst (N := 5) rfl ?_); refine box_event ?hg (N := 5) ?hd (cs := #[.int .i64 0, .int .i64 0, .int .i64 0]) (t := 54) ?hr ?_; (case hd => rfl); (case hg => rfl); (case hr => first | (go_simp; done) | (go_simp; rfl)); intro gb191 hg w84 hbox hb; have n0_ := kl BK186 hb; have n1_ := ls1 HB GE186 hb; have n2_ := Aside0.mk (hbox); have n3_ := Aside0.mk ((by rw [hg]; exact (below_size (lb1 HB GE186)) : w.heap.size ≤ gb191)); have n4_ := Aside0.mk ((by rw [hg]; exact (below_size (lb1 HB GE186)) : w.heap.size ≤ gb191)); have n5_ := kn BK186 hg; have n6_ := km BK186 hg; clear BK186; clear HB; have BK186 := n0_; have HB := n1_; have BK191 := n2_; have GW191 := n3_; have GE191 := n4_; have NB186_191 := n5_; have NB191_186 := n6_; clear n0_ n1_ n2_ n3_ n4_ n5_ n6_; clear hb hbox hg; have hnb85 := NB191_186.out; have hnc85 := NB186_191.out; have hcz86_0 := bc BK191 0; have hcz86_1 := bc BK191 1; have hcz86_2 := bc BK191 2; have hfz86_0 := blk_frozen BK191.out 0; have hfz86_1 := blk_frozen BK191.out 1; have hfz86_2 := blk_frozen BK191.out 2))
           have n0_ : Aside0 ((((w84.setCell ⟨gb191, 0, none⟩ (.int .i64 ((rd_T54 l0_2 x4_2).f0))).setCell ⟨gb191, 1, none⟩ (.int .i64 ((rd_T54 l0_2 x4_2).f1))).setCell ⟨gb191, 2, none⟩ (.int .i64 ((rd_T54 l0_2 x4_2).f2))).heap[gb186]? = some (.cells #[.string a0_0, .int .i64 a0_1, .slice (some ad190) l0_2.length c0_2] 31 (0, 0))) := ⟨kf1 BK186 NB186_191⟩
           have n1_ : Aside0 ((((w84.setCell ⟨gb191, 0, none⟩ (.int .i64 ((rd_T54 l0_2 x4_2).f0))).setCell ⟨gb191, 1, none⟩ (.int .i64 ((rd_T54 l0_2 x4_2).f1))).setCell ⟨gb191, 2, none⟩ (.int .i64 ((rd_T54 l0_2 x4_2).f2))).heap[gb191]? = some (.cells #[.int .i64 ((rd_T54 l0_2 x4_2).f0), .int .i64 ((rd_T54 l0_2 x4_2).f1), .int .i64 ((rd_T54 l0_2 x4_2).f2)] 54 (0, 0))) := ⟨by (with_reducible repeat (first | refine blk_drewN ?_ _ | refine blk_drew ?_ | refine blk_alloc ?_ _)); refine blk_put (cs := #[.int .i64 ((rd_T54 l0_2 x4_2).f0), .int .i64 ((rd_T54 l0_2 x4_2).f1), .int .i64 0]) ?_ 2 _ rfl; (with_reducible repeat (first | refine blk_drewN ?_ _ | refine blk_drew ?_ | refine blk_alloc ?_ _)); refine blk_put (cs := #[.int .i64 ((rd_T54 l0_2 x4_2).f0), .int .i64 0, .int .i64 0]) ?_ 1 _ rfl; (with_reducible repeat (first | refine blk_drewN ?_ _ | refine blk_drew ?_ | refine blk_alloc ?_ _)); refine blk_put (cs := #[.int .i64 0, .int .i64 0, .int .i64 0]) ?_ 0 _ rfl; (with_reducible repeat (first | refine blk_drewN ?_ _ | refine blk_drew ?_ | refine blk_alloc ?_ _)); exact BK191.out⟩
           have n2_ : Aside0 (Below w.heap.size w (((w84.setCell ⟨gb191, 0, none⟩ (.int .i64 ((rd_T54 l0_2 x4_2).f0))).setCell ⟨gb191, 1, none⟩ (.int .i64 ((rd_T54 l0_2 x4_2).f1))).setCell ⟨gb191, 2, none⟩ (.int .i64 ((rd_T54 l0_2 x4_2).f2)))) := ⟨lb2 HB GE186 GE191⟩
           (try clear BK186)
           (try clear BK191)
           (try clear HB)
           generalize (((w84.setCell ⟨gb191, 0, none⟩ (.int .i64 ((rd_T54 l0_2 x4_2).f0))).setCell ⟨gb191, 1, none⟩ (.int .i64 ((rd_T54 l0_2 x4_2).f1))).setCell ⟨gb191, 2, none⟩ (.int .i64 ((rd_T54 l0_2 x4_2).f2))) = w87 at n0_ n1_ n2_ ⊢
           have BK186 := n0_
           have BK191 := n1_
           have HB := n2_
           clear n0_ n1_ n2_
           have n0_ := Aside0.mk (blk_drew BK186.out)
           have n1_ := Aside0.mk (blk_drew BK191.out)
           have n2_ := Aside0.mk (below_drew1 HB.out)
           clear BK186
           clear BK191
           clear HB
           have BK186 := n0_
           have BK191 := n1_
           have HB := n2_
           clear n0_ n1_ n2_
           refine start_ (n := 37) (S := fun w' => w'.cell? ⟨gb191, 0, none⟩ = some (.int .i64 ((rd_T54 l0_2 x4_2).f0)) ∧ w'.cell? ⟨gb191, 1, none⟩ = some (.int .i64 ((rd_T54 l0_2 x4_2).f1)) ∧ w'.cell? ⟨gb191, 2, none⟩ = some (.int .i64 ((rd_T54 l0_2 x4_2).f2))) (ds := []) #[false, false, false, false, false, false, false, false, false, false, false, false, false, false, false, false, false, false, false, false, false, false, false, false, false, false, false, false, false, false, false, false, false, false, false, false, false] (by kernel_rfl) rfl rfl ⟨(blk_cell BK191.out 0).trans rfl, (blk_cell BK191.out 1).trans rfl, (blk_cell BK191.out 2).trans rfl⟩ (fun hHeld => ?_); refine with_tabW crossbarref28_Check.tab10 crossbarref28_Check.bits10 (fun HT_ HW_ => ?_)
           generalize w87.drew = w88 at BK186 BK191 HB hHeld ⊢
           refine p_ 0 34 HT_ ?_
           refine t_ 1 35 HT_ HW_ rfl rfl hHeld (by rintro w' ⟨s0, s1, s2⟩; go_simp; with_reducible rfl) ?_
           refine p_ 2 36 HT_ ?_
           refine p_ 3 37 HT_ ?_
           refine p_ 4 38 HT_ ?_
           refine t_ 5 39 HT_ HW_ rfl rfl hHeld (by rintro w' ⟨s0, s1, s2⟩; go_simp; with_reducible rfl) ?_
           refine o_ 6 40 HT_ (fun K hK => ?_)
           refine goes_ Tryd.func56 (by kernel_rfl) rfl #[.int .i64 ((rd_T54 l0_2 x4_2).f0)] (by rfl) rfl rfl (by (try simp only [List.map_toArray, List.map_cons, List.map_nil]); first | done | rfl | (simp only [List.length_drop, List.length_take]; rfl)) ?_
           with_reducible refine (crossbarref28_within.calls ((rd_T54 l0_2 x4_2).f0) false _ A24.out).mono ?_
           rintro e w' ⟨rfl, ⟨nd, rfl⟩⟩
           refine ⟨_, rfl, ?_⟩
           refine hK.out _ _ ⟨(blk_cell BK191.out 0).trans rfl, (blk_cell BK191.out 1).trans rfl, (blk_cell BK191.out 2).trans rfl⟩ (fun hHeld => ?_)
           clear hK K
           refine n_ 40 ?_
           refine p_ 7 41 HT_ ?_
           refine p_ 8 42 HT_ ?_
           refine p_ 9 43 HT_ ?_
           refine q_ 10 44 HT_ ?_
           refine q_ 11 45 HT_ ?_
           refine q_ 12 46 HT_ ?_
           refine q_ 13 47 HT_ ?_
           refine q_ 14 48 HT_ ?_
           refine q_ 15 49 HT_ ?_
           refine q_ 16 50 HT_ ?_
           refine q_ 17 51 HT_ ?_
           refine q_ 18 52 HT_ ?_
           refine q_ 19 53 HT_ ?_
           refine q_ 20 54 HT_ ?_
           refine q_ 21 55 HT_ ?_
           refine q_ 22 56 HT_ ?_
           refine q_ 23 57 HT_ ?_
           refine p_ 24 58 HT_ ?_
           refine p_ 25 59 HT_ ?_
           refine q_ 26 60 HT_ ?_
           refine q_ 27 61 HT_ ?_
           refine q_ 28 62 HT_ ?_
           refine q_ 29 63 HT_ ?_
           refine p_ 30 64 HT_ ?_
           refine p_ 31 65 HT_ ?_
           refine q_ 32 66 HT_ ?_
           refine q_ 33 67 HT_ ?_
           refine q_ 34 68 HT_ ?_
           refine q_ 35 69 HT_ ?_
           refine p_ 36 70 HT_ ?_
           refine done_ (done_of HT_.out (by kernel_rfl)) ?_
           try go_wp2
           go_ret
           exact ⟨by first | rfl | (simp [errW_none, errW_some] <;> rfl) | (simp [*, errW_none, errW_some] <;> rfl), lb2 HB GE186 GE191⟩
        ·rw [if_neg c16] at H
         exact absurd H (by simp)
       ·rw [if_neg c15] at H
        have c15b0 : decide (x4_2 < (l0_2.length : Int)) = false := decide_eq_false c15
        clear c15
        replace H := Option.bind_eq_some_iff.mp H
        obtain ⟨t189, A890, H⟩ := H
        replace H : (if t189 = true then (some 0) else (some 1)) = some r := H
        have A89 := Aside0.mk A890
        clear A890
        by_cases c90 : t189 = true
        ·subst c90
         have H1 : (some 0) = some r := by rw [if_pos rfl] at H; exact H
         clear H
         have H := H1
         clear H1
         obtain rfl := Option.some.inj H
         have hcz91_0 := bc BK186 0
         have hcz91_1 := bc BK186 1
         have hcz91_2 := bc BK186 2
         have hfz91_0 := blk_frozen BK186.out 0
         have hfz91_1 := blk_frozen BK186.out 1
         have hfz91_2 := blk_frozen BK186.out 2
         go_wp2_with (first | ((with_reducible refine gate_callee (f := 56) rfl ?_); refine goesL_ (some 76) rfl rfl Tryd.func56 (by kernel_rfl) rfl #[.int .i64 x3_2] rfl (by (try simp only [List.map_toArray, List.map_cons, List.map_nil]); first | done | rfl | (simp only [List.length_drop, List.length_take]; rfl)) ?_; (with_reducible refine (crossbarref28_within.calls x3_2 true _ A89.out).mono ?_); rintro e w' ⟨rfl, ⟨nd, rfl⟩⟩; refine ⟨_, rfl, ?_⟩))
         go_ret
         exact ⟨by first | rfl | (simp [errW_none, errW_some] <;> rfl) | (simp [*, errW_none, errW_some] <;> rfl), lb1 HB GE186⟩
        ·replace c90 := Bool.eq_false_iff.mpr c90
         subst c90
         have H1 : (some 1) = some r := by rw [if_neg (show ¬ (false = true) by decide)] at H; exact H
         clear H
         have H := H1
         clear H1
         obtain rfl := Option.some.inj H
         have hcz92_0 := bc BK186 0
         have hcz92_1 := bc BK186 1
         have hcz92_2 := bc BK186 2
         have hfz92_0 := blk_frozen BK186.out 0
         have hfz92_1 := blk_frozen BK186.out 1
         have hfz92_2 := blk_frozen BK186.out 2
         go_wp2_with (first | ((with_reducible refine gate_callee (f := 56) rfl ?_); refine goesL_ (some 76) rfl rfl Tryd.func56 (by kernel_rfl) rfl #[.int .i64 x3_2] rfl (by (try simp only [List.map_toArray, List.map_cons, List.map_nil]); first | done | rfl | (simp only [List.length_drop, List.length_take]; rfl)) ?_; (with_reducible refine (crossbarref28_within.calls x3_2 false _ A89.out).mono ?_); rintro e w' ⟨rfl, ⟨nd, rfl⟩⟩; refine ⟨_, rfl, ?_⟩))
         go_ret
         exact ⟨by first | rfl | (simp [errW_none, errW_some] <;> rfl) | (simp [*, errW_none, errW_some] <;> rfl), lb1 HB GE186⟩

end Go.Proofs.YtldpacphackdjaaDoor.Print
