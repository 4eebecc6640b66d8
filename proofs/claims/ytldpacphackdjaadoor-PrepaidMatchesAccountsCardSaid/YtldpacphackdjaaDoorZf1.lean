/- Parts of the proofs of layer 28's laws, joined in one file by a program of the session; each part begins with its own sentence. -/
import Derived.Test.YtldpacphackdjaaDoorZaSq
import Derived.Test.YtldpacphackdjaaDoorZaK0
import Derived.Test.YtldpacphackdjaaDoorZa6
import Derived.Test.YtldpacphackdjaaDoorZdF30
import Derived.Test.YtldpacphackdjaaDoorZd1
import Derived.Test.YtldpacphackdjaaDoorZd2
import Derived.Test.YtldpacphackdjaaDoorZa3
import Derived.Test.YtldpacphackdjaaDoorZaHPSettle
import Derived.Test.YtldpacphackdjaaDoorZa2
import Derived.Test.YtldpacphackdjaaDoorZaF29
import Derived.Test.YtldpacphackdjaaDoorZaF21
import Derived.Test.YtldpacphackdjaaDoorZj1
/- That the call of function 60 (crossbarref28_without) answers what the Lean function of the same name answers, at every input at which that one answers. (Written by a program of the session, which drives the kit's printer.) -/
namespace Go.Proofs.YtldpacphackdjaaDoor.Print
open Go.RowKit Go.Proofs.YtldpacphackdjaaDoorW.PrintWords Go.Proofs.YtldpacphackdjaaDoorW.PrintLast Go.Proofs.YtldpacphackdjaaDoorW.PrintMore
attribute [local go_sem] max2_int min2_int max_two min_two max_three min_three max_four min_four   -- for this text's walks alone
set_option linter.unusedVariables false
set_option linter.unusedSimpArgs false

/-! ### crossbarref28_without: function 60 -/
def crossbarref28_without.l0 : Nat → List (S54) → Int → List (S54) → Int → Option ((List (S54)))
 | 0, _, _, _, _ => none
 | k + 1, x0, x1, x5, x6 => if x6 < (x0.length : Int) then (if 0 ≤ x6 then (if ((rd_T54 x0 x6).f0) = x1 then (crossbarref28_without.l0 k x0 x1 x5 (wrap64 (x6 + 1))) else (if x5.length < 5864062014805 then (crossbarref28_without.l0 k x0 x1 (x5 ++ [(⟨(rd_T54 x0 x6).f0, (rd_T54 x0 x6).f1, (rd_T54 x0 x6).f2⟩ : S54)]) (wrap64 (x6 + 1))) else (none))) else (none)) else (some x5)
def crossbarref28_without.f (k : Nat) (l0 : List (S54)) (a1 : Int) : Option ((List (S54))) := crossbarref28_without.l0 k l0 a1 ([] : List (S54)) 0
set_option maxHeartbeats 8000000 in
set_option maxRecDepth 100000 in
theorem crossbarref28_without.calls (k : Nat) (A0 : Option Addr) (c0 : Nat) (l0 : List (S54)) (a1 : Int) (r : List (S54)) (w : World) (hr0 : Kd.C k54 w A0 l0.length l0) (hc0 : l0.length ≤ c0) (h : crossbarref28_without.f k l0 a1 = some r) :
  Calls Tryd.prog 60 #[.slice A0 l0.length c0, .int .i64 a1] w fun e w' => ∃ v0_ : Value, e = .returned (v0_) ∧ Kd.R k54 54 w' w.heap.size (fun _ => True) v0_ r ∧ Below w.heap.size w w' := by
 have hu54 := Tryd.underlying54
 have HR0 := Aside0.mk hr0
 have HC0 := Aside0.mk hc0
 clear hr0 hc0
 have HB := Aside0.mk (Below.refl w.heap.size w)
 have H : (crossbarref28_without.l0 k l0 a1 ([] : List (S54)) 0) = some r := h
 clear h
 have H' := Aside0.mk H
 clear H
 go_enter Tryd.func60, Tryd.ntmps60
 go_wp2
 go_loopg [5, 6] k (fun kq v5 v6 w' => ∃ (x5_1 : List (S54)) (x6_1 : Int), v6 = .int .i64 x6_1 ∧ Aside0 (crossbarref28_without.l0 kq l0 a1 x5_1 x6_1 = some r) ∧ Aside0 (kq ≤ k) ∧ Aside0 (Kd.R k54 54 w' w.heap.size (fun _ => True) v5 x5_1) ∧ Aside0 (Below w.heap.size w w'))
 case atStart => exact ⟨(([] : List (S54))), (0), (by first | rfl | (simp; done) | (simp [*]; done)), H', ⟨Nat.le_refl _⟩, ⟨by first | exact Kd.R_nil _ _ _ _ _ | exact Kd.N_nil _ _ _ _ _ | exact Kd.V_nil _ _ _ _ _ | exact Kd.Q_nil _ _ _ _ _ | exact Kd.S_nil _ _ _ _ _⟩, ⟨lb0 HB⟩⟩
 case round =>
  clear H'
  try clear p2
  obtain ⟨x5_1, x6_1, rfl, HA, HK1, HO_5, HB⟩ := hrel
  cases gk with
  | zero => exact absurd HA.out (by simp [crossbarref28_without.l0])
  | succ k1 =>
   have H := HA.out
   clear HA
   simp only [crossbarref28_without.l0] at H
   by_cases c3 : x6_1 < (l0.length : Int)
   ·rw [if_pos c3] at H
    have c3b0 : decide (x6_1 < (l0.length : Int)) = true := decide_eq_true c3
    clear c3
    by_cases c4 : 0 ≤ x6_1
    ·rw [if_pos c4] at H
     have c4b0 : decide (0 ≤ x6_1) = true := decide_eq_true c4
     clear c4
     by_cases c5 : ((rd_T54 l0 x6_1).f0) = a1
     ·rw [if_pos c5] at H
      have c5b0 : (((rd_T54 l0 x6_1).f0) == a1) = true := beq_iff_eq.mpr c5
      have c5b1 : (((rd_T54 l0 x6_1).f0) != a1) = false := bne_eq_false_iff_eq.mpr c5
      clear c5
      have H' := Aside0.mk H
      clear H
      have p356 : 0 ≤ (x6_1 : Int) := of_decide_eq_true (by first | (with_reducible assumption) | assumption)
      have q356 : x6_1 < (l0.length : Int) := of_decide_eq_true (by first | (with_reducible assumption) | assumption)
      obtain ⟨ad356, e356, hx356_0, hx356_1, hx356_2⟩ := at_T54 HR0.out x6_1 p356 q356
      cases e356
      replace hx356_0 := (HB.out.cell (World.block_lt_of_cell? w _ hx356_0)).trans hx356_0
      replace hx356_1 := (HB.out.cell (World.block_lt_of_cell? w _ hx356_1)).trans hx356_1
      replace hx356_2 := (HB.out.cell (World.block_lt_of_cell? w _ hx356_2)).trans hx356_2
      replace p356 := eq_true p356
      replace q356 := eq_true q356
      go_wp2
      go_roundg k1
      case measure => have := HK1.out; omega
      case rel => exact ⟨(x5_1), (wrap64 (x6_1 + 1)), (by first | rfl | (simp; done) | (simp [*]; done)), H', ⟨by have := HK1.out; omega⟩, ⟨rk HO_5⟩, ⟨lb0 HB⟩⟩
     ·rw [if_neg c5] at H
      have c5b0 : (((rd_T54 l0 x6_1).f0) == a1) = false := beq_eq_false_iff_ne.mpr c5
      have c5b1 : (((rd_T54 l0 x6_1).f0) != a1) = true := bne_iff_ne.mpr c5
      by_cases c6 : x5_1.length < 5864062014805
      ·rw [if_pos c6] at H
       have LMc6 := Aside0.mk c6
       clear c6
       obtain ⟨y358, hy358⟩ : ∃ y_ : List (S54), y_ = (x5_1 ++ [(⟨(rd_T54 l0 x6_1).f0, (rd_T54 l0 x6_1).f1, (rd_T54 l0 x6_1).f2⟩ : S54)]) := ⟨_, rfl⟩
       replace H : (crossbarref28_without.l0 k1 l0 a1 y358 (wrap64 (x6_1 + 1))) = some r := by first | (rw [hy358]; with_reducible exact H) | (have H2_ := (Option.bind_some _ _).symm.trans H; rw [hy358]; with_reducible exact H2_) | (have H2_ := (Option.bind_some _ _).symm.trans H; with_reducible exact H2_) | with_reducible exact H | (rw [hy358]; exact H) | exact H
       have Ny358 := Aside0.mk hy358
       clear hy358
       have H' := Aside0.mk H
       clear H
       have p356 : 0 ≤ (x6_1 : Int) := of_decide_eq_true (by first | (with_reducible assumption) | assumption)
       have q356 : x6_1 < (l0.length : Int) := of_decide_eq_true (by first | (with_reducible assumption) | assumption)
       obtain ⟨ad356, e356, hx356_0, hx356_1, hx356_2⟩ := at_T54 HR0.out x6_1 p356 q356
       cases e356
       replace hx356_0 := (HB.out.cell (World.block_lt_of_cell? w _ hx356_0)).trans hx356_0
       replace hx356_1 := (HB.out.cell (World.block_lt_of_cell? w _ hx356_1)).trans hx356_1
       replace hx356_2 := (HB.out.cell (World.block_lt_of_cell? w _ hx356_2)).trans hx356_2
       replace p356 := eq_true p356
       replace q356 := eq_true q356
       have p357 : 0 ≤ (x6_1 : Int) := of_decide_eq_true (by first | (with_reducible assumption) | assumption)
       have q357 : x6_1 < (l0.length : Int) := of_decide_eq_true (by first | (with_reducible assumption) | assumption)
       obtain ⟨ad357, e357, hx357_0, hx357_1, hx357_2⟩ := at_T54 HR0.out x6_1 p357 q357
       obtain rfl : ad356 = ad357 := (by injection e357)
       replace hx357_0 := (HB.out.cell (World.block_lt_of_cell? w _ hx357_0)).trans hx357_0
       replace hx357_1 := (HB.out.cell (World.block_lt_of_cell? w _ hx357_1)).trans hx357_1
       replace hx357_2 := (HB.out.cell (World.block_lt_of_cell? w _ hx357_2)).trans hx357_2
       replace p357 := eq_true p357
       replace q357 := eq_true q357
       go_wp2_with (first | ((with_reducible refine gate_builtin (b := .append) (xs := #[.tmp 20, .tmp 25]) rfl ?_); at_builtin; refine Kd.R_append k54 (w0 := w) w.heap.size rfl (.tmp 20) (.tmp 25) 29 54 (.agg #[(.int .i64 0), (.int .i64 0), (.int .i64 0)]) 24 rfl Tryd.underlying29 info54 rfl (by decide) (by omega) u5 x5_1 (⟨(rd_T54 l0 x6_1).f0, (rd_T54 l0 x6_1).f1, (rd_T54 l0 x6_1).f2⟩ : S54) [.int .i64 ((rd_T54 l0 x6_1).f0), .int .i64 ((rd_T54 l0 x6_1).f1), .int .i64 ((rd_T54 l0 x6_1).f2)] (fun _ => True) (fun _ => False) rfl rfl ?aP (fun _ hk => hk.elim) ?aF ?aO ?aB ?aS ?aL ?_; (case aP => exact k54_mkM _ _ _ (⟨(rd_T54 l0 x6_1).f0, (rd_T54 l0 x6_1).f1, (rd_T54 l0 x6_1).f2⟩ : S54)); (case aB => exact (lb0 HB)); (case aF => exact (fun _ _ => trivial)); (case aO => exact (rk HO_5)); (case aS => exact (below_size (lb0 HB))); (case aL => have := LMc6.out; omega); intro v359 w7 ho hb hg hat; rw [← Ny358.out] at ho; have n0_ := Aside0.mk (hb); have n1_ := Aside0.mk (ho); clear HB; clear HO_5; have HB := n0_; have HO360 := n1_; clear n0_ n1_; clear ho hb hg hat))
       go_roundg k1
       case measure => have := HK1.out; omega
       case rel => exact ⟨(y358), (wrap64 (x6_1 + 1)), (by first | rfl | (simp; done) | (simp [*]; done)), H', ⟨by have := HK1.out; omega⟩, ⟨rk HO360⟩, ⟨lb0 HB⟩⟩
      ·rw [if_neg c6] at H
       exact absurd H (by simp)
    ·rw [if_neg c4] at H
     exact absurd H (by simp)
   ·rw [if_neg c3] at H
    have c3b0 : decide (x6_1 < (l0.length : Int)) = false := decide_eq_false c3
    clear c3
    obtain rfl := Option.some.inj H
    go_wp2
    go_ret
    exact ⟨_, by first | rfl | (simp [errW_none, errW_some] <;> rfl) | (simp [*, errW_none, errW_some] <;> rfl), rk HO_5, lb0 HB⟩

end Go.Proofs.YtldpacphackdjaaDoor.Print
/- That the call of function 26 (crossbarref28_Settle) answers what the Lean function of the same name answers, at every input at which that one answers. (Written by a program of the session, which drives the kit's printer.) -/
namespace Go.Proofs.YtldpacphackdjaaDoor.Print
open Go.RowKit Go.Proofs.YtldpacphackdjaaDoorW.PrintWords Go.Proofs.YtldpacphackdjaaDoorW.PrintLast Go.Proofs.YtldpacphackdjaaDoorW.PrintMore
attribute [local go_sem] max2_int min2_int max_two min_two max_three min_three max_four min_four   -- for this text's walks alone
set_option linter.unusedVariables false
set_option linter.unusedSimpArgs false

/-! ### crossbarref28_Settle: function 26 -/
def crossbarref28_Settle.f (k : Nat) (a0_0 : ByteArray) (a0_1 : Int) (l0_2 : List (S54)) (a1 : Int) (a2 : Int) : Option (ByteArray × Int × (List (S54)) × Int) := (crossbarref28_Check.f k a0_0 a0_1 l0_2).bind fun t363 => (if t363 = 0 then ((crossbarref28_Find.f k a0_0 a0_1 l0_2 a1).bind fun t364 => (if a2 < 0 then (some ((⟨#[]⟩ : ByteArray), 0, ([] : List (S54)), 1)) else (if t364 < 0 then (some ((⟨#[]⟩ : ByteArray), 0, ([] : List (S54)), 1)) else (if 0 ≤ t364 then (if t364 < (l0_2.length : Int) then ((crossbarref28_without.f k l0_2 a1).bind fun t366 => (some (a0_0, mx 0 (wrap64 ((wrap64 (a0_1 + ((rd_T54 l0_2 t364).f1))) - a2)), t366, 0))) else (none)) else (none))))) else (some ((⟨#[]⟩ : ByteArray), 0, ([] : List (S54)), t363)))
def crossbarref28_Settle.T7 : Bool × List (List Nat × List Nat) := (true, [([], []), ([0], [0]), ([], []), ([2], [2]), ([], []), ([3, 4], [3, 4]), ([5], [5]), ([6], [6]), ([1, 7], [1, 7]), ([8, 0, 1, 2, 3, 4, 5, 6, 7, 8], [8])])
def crossbarref28_Settle.B7 : List Nat := [0, 1, 0, 4, 0, 28, 60, 124, 255, 511]
theorem crossbarref28_Settle.tab7 : rtab .any (opsOf Tryd.f26 7) = crossbarref28_Settle.T7 := by kernel_rfl
theorem crossbarref28_Settle.bits7 : waitsOk crossbarref28_Settle.T7.2 crossbarref28_Settle.B7 = true := by kernel_rfl
def crossbarref28_Settle.T8 : Bool × List (List Nat × List Nat) := (true, [([], []), ([0], [0]), ([], []), ([], []), ([2, 3], [2, 3]), ([4], [4]), ([], []), ([6], [6]), ([], []), ([7, 8], [7, 8]), ([1, 5, 9], [1, 5, 9]), ([10, 9, 0, 1, 2, 3, 4, 5, 6, 7, 8, 9, 10], [10]), ([11, 0, 1, 2, 3, 4, 5, 6, 7, 8, 9, 10, 11], [])])
def crossbarref28_Settle.B8 : List Nat := [0, 1, 0, 0, 12, 28, 0, 64, 0, 448, 1023, 2047, 4095]
theorem crossbarref28_Settle.tab8 : rtab .any (opsOf Tryd.f26 8) = crossbarref28_Settle.T8 := by kernel_rfl
theorem crossbarref28_Settle.bits8 : waitsOk crossbarref28_Settle.T8.2 crossbarref28_Settle.B8 = true := by kernel_rfl
set_option maxHeartbeats 8000000 in
set_option maxRecDepth 100000 in
theorem crossbarref28_Settle.calls (k : Nat) (a0_0 : ByteArray) (a0_1 : Int) (A0_2 : Option Addr) (c0_2 : Nat) (l0_2 : List (S54)) (a1 : Int) (a2 : Int) (r1 : ByteArray) (r2 : Int) (r3 : List (S54)) (r4 : Int) (w : World) (hr0_2 : Kd.C k54 w A0_2 l0_2.length l0_2) (hc0_2 : l0_2.length ≤ c0_2) (h : crossbarref28_Settle.f k a0_0 a0_1 l0_2 a1 a2 = some (r1, r2, r3, r4)) :
  Calls Tryd.prog 26 #[.agg #[.string a0_0, .int .i64 a0_1, .slice A0_2 l0_2.length c0_2], .int .i64 a1, .int .i64 a2] w fun e w' => ∃ v2_ : Value, e = .returned (.tuple #[.agg #[.string r1, .int .i64 r2, v2_], .int .i64 r4]) ∧ Kd.R k54 54 w' w.heap.size (fun _ => True) v2_ r3 ∧ Below w.heap.size w w' := by
 have hu31 := Tryd.underlying31
 have HR0_2 := Aside0.mk hr0_2
 have HC0_2 := Aside0.mk hc0_2
 clear hr0_2 hc0_2
 have HB := Aside0.mk (Below.refl w.heap.size w)
 have H : ((crossbarref28_Check.f k a0_0 a0_1 l0_2).bind fun t363 => (if t363 = 0 then ((crossbarref28_Find.f k a0_0 a0_1 l0_2 a1).bind fun t364 => (if a2 < 0 then (some ((⟨#[]⟩ : ByteArray), 0, ([] : List (S54)), 1)) else (if t364 < 0 then (some ((⟨#[]⟩ : ByteArray), 0, ([] : List (S54)), 1)) else (if 0 ≤ t364 then (if t364 < (l0_2.length : Int) then ((crossbarref28_without.f k l0_2 a1).bind fun t366 => (some (a0_0, mx 0 (wrap64 ((wrap64 (a0_1 + ((rd_T54 l0_2 t364).f1))) - a2)), t366, 0))) else (none)) else (none))))) else (some ((⟨#[]⟩ : ByteArray), 0, ([] : List (S54)), t363)))) = some (r1, r2, r3, r4) := h
 clear h
 replace H := Option.bind_eq_some_iff.mp H
 obtain ⟨t363, A40, H⟩ := H
 replace H : (if t363 = 0 then ((crossbarref28_Find.f k a0_0 a0_1 l0_2 a1).bind fun t364 => (if a2 < 0 then (some ((⟨#[]⟩ : ByteArray), 0, ([] : List (S54)), 1)) else (if t364 < 0 then (some ((⟨#[]⟩ : ByteArray), 0, ([] : List (S54)), 1)) else (if 0 ≤ t364 then (if t364 < (l0_2.length : Int) then ((crossbarref28_without.f k l0_2 a1).bind fun t366 => (some (a0_0, mx 0 (wrap64 ((wrap64 (a0_1 + ((rd_T54 l0_2 t364).f1))) - a2)), t366, 0))) else (none)) else (none))))) else (some ((⟨#[]⟩ : ByteArray), 0, ([] : List (S54)), t363))) = some (r1, r2, r3, r4) := H
 have A4 := Aside0.mk A40
 clear A40
 by_cases c5 : t363 = 0
 ·rw [if_pos c5] at H
  have c5b0 : (t363 == 0) = true := beq_iff_eq.mpr c5
  have c5b1 : (t363 != 0) = false := bne_eq_false_iff_eq.mpr c5
  clear c5
  replace H := Option.bind_eq_some_iff.mp H
  obtain ⟨t364, A60, H⟩ := H
  replace H : (if a2 < 0 then (some ((⟨#[]⟩ : ByteArray), 0, ([] : List (S54)), 1)) else (if t364 < 0 then (some ((⟨#[]⟩ : ByteArray), 0, ([] : List (S54)), 1)) else (if 0 ≤ t364 then (if t364 < (l0_2.length : Int) then ((crossbarref28_without.f k l0_2 a1).bind fun t366 => (some (a0_0, mx 0 (wrap64 ((wrap64 (a0_1 + ((rd_T54 l0_2 t364).f1))) - a2)), t366, 0))) else (none)) else (none)))) = some (r1, r2, r3, r4) := H
  have A6 := Aside0.mk A60
  clear A60
  by_cases c7 : a2 < 0
  ·rw [if_pos c7] at H
   have c7b0 : decide (a2 < 0) = true := decide_eq_true c7
   clear c7
   simp only [Option.some.injEq, Prod.mk.injEq] at H
   obtain ⟨rfl, rfl, rfl, rfl⟩ := H
   go_enter Tryd.func26, Tryd.ntmps26
   go_wp2_with (first | ((with_reducible refine gate_dst (N := 3) rfl ?_); refine box_event ?hg (N := 3) ?hd (cs := #[.string a0_0, .int .i64 a0_1, .slice A0_2 l0_2.length c0_2]) (t := 31) ?hr ?_; (case hd => rfl); (case hg => rfl); (case hr => first | (go_simp; done) | (go_simp; rfl)); intro gb361 hg w8 hbox hb; have n0_ := ls0 HB hb; have n1_ := Aside0.mk (hbox); have n2_ := Aside0.mk ((by rw [hg]; exact (below_size (lb0 HB)) : w.heap.size ≤ gb361)); have n3_ := Aside0.mk ((by rw [hg]; exact (below_size (lb0 HB)) : w.heap.size ≤ gb361)); clear HB; have HB := n0_; have BK361 := n1_; have GW361 := n2_; have GE361 := n3_; clear n0_ n1_ n2_ n3_; clear hb hbox hg) | ((with_reducible refine gate_dst (N := 6) rfl ?_); refine box_event ?hg (N := 6) ?hd (cs := #[.string (⟨#[]⟩ : ByteArray), .int .i64 0, .slice none 0 0]) (t := 31) ?hr ?_; (case hd => rfl); (case hg => rfl); (case hr => first | (go_simp; done) | (go_simp; rfl)); intro gb362 hg w9 hbox hb; have n0_ := kl BK361 hb; have n1_ := ls1 HB GE361 hb; have n2_ := Aside0.mk (hbox); have n3_ := Aside0.mk ((by rw [hg]; exact (below_size (lb1 HB GE361)) : w.heap.size ≤ gb362)); have n4_ := Aside0.mk ((by rw [hg]; exact (below_size (lb1 HB GE361)) : w.heap.size ≤ gb362)); have n5_ := kn BK361 hg; have n6_ := km BK361 hg; clear BK361; clear HB; have BK361 := n0_; have HB := n1_; have BK362 := n2_; have GW362 := n3_; have GE362 := n4_; have NB361_362 := n5_; have NB362_361 := n6_; clear n0_ n1_ n2_ n3_ n4_ n5_ n6_; clear hb hbox hg; have hnb10 := NB361_362.out; have hnc10 := NB362_361.out; have hcz11_0 := bc BK361 0; have hcz11_1 := bc BK361 1; have hcz11_2 := bc BK361 2; have hfz11_0 := blk_frozen BK361.out 0; have hfz11_1 := blk_frozen BK361.out 1; have hfz11_2 := blk_frozen BK361.out 2) | ((with_reducible refine gate_callee (f := 30) rfl ?_); refine goesL_ (some 12) rfl rfl Tryd.func30 (by kernel_rfl) rfl #[.agg #[.string a0_0, .int .i64 a0_1, .slice A0_2 l0_2.length c0_2]] rfl (by (try simp only [List.map_toArray, List.map_cons, List.map_nil]); first | done | rfl | (simp only [List.length_drop, List.length_take]; rfl)) ?_; (with_reducible refine (crossbarref28_Check.calls k a0_0 a0_1 _ _ l0_2 t363 _ ?side1 ?side2 A4.out).mono ?_); (case side1 => repeat (first | exact (Kd.C_below HR0_2.out HB.out) | (with_reducible refine Kd.C_alloc ?_ _) | (with_reducible refine Kd.C_drewN ?_ _) | (with_reducible refine Kd.C_drew ?_))); (case side2 => exact HC0_2.out); rintro e w12 ⟨rfl, hb⟩; refine ⟨_, rfl, ?_⟩; have n0_ := kl BK361 hb; have n1_ := kl BK362 hb; have n2_ := ls2 HB GE361 GE362 hb; clear BK361; clear BK362; clear HB; have BK361 := n0_; have BK362 := n1_; have HB := n2_; clear n0_ n1_ n2_; (try clear hb); (try clear hb2); (try clear hk); (try clear hi); have hcz13_0 := bc BK361 0; have hcz13_1 := bc BK361 1; have hcz13_2 := bc BK361 2; have hfz13_0 := blk_frozen BK361.out 0; have hfz13_1 := blk_frozen BK361.out 1; have hfz13_2 := blk_frozen BK361.out 2) | ((with_reducible refine gate_callee (f := 25) rfl ?_); refine goesL_ (some 19) rfl rfl Tryd.func25 (by kernel_rfl) rfl #[.agg #[.string a0_0, .int .i64 a0_1, .slice A0_2 l0_2.length c0_2], .int .i64 a1] rfl (by (try simp only [List.map_toArray, List.map_cons, List.map_nil]); first | done | rfl | (simp only [List.length_drop, List.length_take]; rfl)) ?_; (with_reducible refine (crossbarref28_Find.calls k a0_0 a0_1 _ _ l0_2 a1 t364 _ ?side1 ?side2 A6.out).mono ?_); (case side1 => repeat (first | exact (Kd.C_below HR0_2.out HB.out) | (with_reducible refine Kd.C_alloc ?_ _) | (with_reducible refine Kd.C_drewN ?_ _) | (with_reducible refine Kd.C_drew ?_))); (case side2 => exact HC0_2.out); rintro e w14 ⟨rfl, hb⟩; refine ⟨_, rfl, ?_⟩; have n0_ := kl BK361 hb; have n1_ := kl BK362 hb; have n2_ := ls2 HB GE361 GE362 hb; clear BK361; clear BK362; clear HB; have BK361 := n0_; have BK362 := n1_; have HB := n2_; clear n0_ n1_ n2_; (try clear hb); (try clear hb2); (try clear hk); (try clear hi); have hcz15_0 := bc BK362 0; have hcz15_1 := bc BK362 1; have hcz15_2 := bc BK362 2; have hfz15_0 := blk_frozen BK362.out 0; have hfz15_1 := blk_frozen BK362.out 1; have hfz15_2 := blk_frozen BK362.out 2))
   refine bodyPost_ret (results_ct rfl _ _ gb362 31 #[.string (⟨#[]⟩ : ByteArray), .int .i64 0, .slice none 0 0] (0, 0) _ rfl (by (with_reducible repeat (first | refine blk_drewN ?_ _ | refine blk_drew ?_ | refine blk_alloc ?_ _)); refine blk_put (cs := #[.string (⟨#[]⟩ : ByteArray), .int .i64 0, .slice none 0 0]) ?_ 2 _ rfl; (with_reducible repeat (first | refine blk_drewN ?_ _ | refine blk_drew ?_ | refine blk_alloc ?_ _)); refine blk_put (cs := #[.string (⟨#[]⟩ : ByteArray), .int .i64 0, .slice none 0 0]) ?_ 1 _ rfl; (with_reducible repeat (first | refine blk_drewN ?_ _ | refine blk_drew ?_ | refine blk_alloc ?_ _)); refine blk_put (cs := #[.string (⟨#[]⟩ : ByteArray), .int .i64 0, .slice none 0 0]) ?_ 0 _ rfl; (with_reducible repeat (first | refine blk_drewN ?_ _ | refine blk_drew ?_ | refine blk_alloc ?_ _)); exact BK362.out) Tryd.underlying31 rfl (by kernel_rfl)) rfl ?_
   exact ⟨_, by first | rfl | (simp [errW_none, errW_some] <;> rfl) | (simp [*, errW_none, errW_some] <;> rfl), by first | exact Kd.R_nil _ _ _ _ _ | exact Kd.N_nil _ _ _ _ _ | exact Kd.V_nil _ _ _ _ _ | exact Kd.Q_nil _ _ _ _ _ | exact Kd.S_nil _ _ _ _ _, lb2 HB GE361 GE362⟩
  ·rw [if_neg c7] at H
   have c7b0 : decide (a2 < 0) = false := decide_eq_false c7
   clear c7
   by_cases c16 : t364 < 0
   ·rw [if_pos c16] at H
    have c16b0 : decide (t364 < 0) = true := decide_eq_true c16
    clear c16
    simp only [Option.some.injEq, Prod.mk.injEq] at H
    obtain ⟨rfl, rfl, rfl, rfl⟩ := H
    go_enter Tryd.func26, Tryd.ntmps26
    go_wp2_with (first | ((with_reducible refine gate_dst (N := 3) rfl ?_); refine box_event ?hg (N := 3) ?hd (cs := #[.string a0_0, .int .i64 a0_1, .slice A0_2 l0_2.length c0_2]) (t := 31) ?hr ?_; (case hd => rfl); (case hg => rfl); (case hr => first | (go_simp; done) | (go_simp; rfl)); intro gb361 hg w17 hbox hb; have n0_ := ls0 HB hb; have n1_ := Aside0.mk (hbox); have n2_ := Aside0.mk ((by rw [hg]; exact (below_size (lb0 HB)) : w.heap.size ≤ gb361)); have n3_ := Aside0.mk ((by rw [hg]; exact (below_size (lb0 HB)) : w.heap.size ≤ gb361)); clear HB; have HB := n0_; have BK361 := n1_; have GW361 := n2_; have GE361 := n3_; clear n0_ n1_ n2_ n3_; clear hb hbox hg) | ((with_reducible refine gate_dst (N := 6) rfl ?_); refine box_event ?hg (N := 6) ?hd (cs := #[.string (⟨#[]⟩ : ByteArray), .int .i64 0, .slice none 0 0]) (t := 31) ?hr ?_; (case hd => rfl); (case hg => rfl); (case hr => first | (go_simp; done) | (go_simp; rfl)); intro gb362 hg w18 hbox hb; have n0_ := kl BK361 hb; have n1_ := ls1 HB GE361 hb; have n2_ := Aside0.mk (hbox); have n3_ := Aside0.mk ((by rw [hg]; exact (below_size (lb1 HB GE361)) : w.heap.size ≤ gb362)); have n4_ := Aside0.mk ((by rw [hg]; exact (below_size (lb1 HB GE361)) : w.heap.size ≤ gb362)); have n5_ := kn BK361 hg; have n6_ := km BK361 hg; clear BK361; clear HB; have BK361 := n0_; have HB := n1_; have BK362 := n2_; have GW362 := n3_; have GE362 := n4_; have NB361_362 := n5_; have NB362_361 := n6_; clear n0_ n1_ n2_ n3_ n4_ n5_ n6_; clear hb hbox hg; have hnb19 := NB361_362.out; have hnc19 := NB362_361.out; have hcz20_0 := bc BK361 0; have hcz20_1 := bc BK361 1; have hcz20_2 := bc BK361 2; have hfz20_0 := blk_frozen BK361.out 0; have hfz20_1 := blk_frozen BK361.out 1; have hfz20_2 := blk_frozen BK361.out 2) | ((with_reducible refine gate_callee (f := 30) rfl ?_); refine goesL_ (some 12) rfl rfl Tryd.func30 (by kernel_rfl) rfl #[.agg #[.string a0_0, .int .i64 a0_1, .slice A0_2 l0_2.length c0_2]] rfl (by (try simp only [List.map_toArray, List.map_cons, List.map_nil]); first | done | rfl | (simp only [List.length_drop, List.length_take]; rfl)) ?_; (with_reducible refine (crossbarref28_Check.calls k a0_0 a0_1 _ _ l0_2 t363 _ ?side1 ?side2 A4.out).mono ?_); (case side1 => repeat (first | exact (Kd.C_below HR0_2.out HB.out) | (with_reducible refine Kd.C_alloc ?_ _) | (with_reducible refine Kd.C_drewN ?_ _) | (with_reducible refine Kd.C_drew ?_))); (case side2 => exact HC0_2.out); rintro e w21 ⟨rfl, hb⟩; refine ⟨_, rfl, ?_⟩; have n0_ := kl BK361 hb; have n1_ := kl BK362 hb; have n2_ := ls2 HB GE361 GE362 hb; clear BK361; clear BK362; clear HB; have BK361 := n0_; have BK362 := n1_; have HB := n2_; clear n0_ n1_ n2_; (try clear hb); (try clear hb2); (try clear hk); (try clear hi); have hcz22_0 := bc BK361 0; have hcz22_1 := bc BK361 1; have hcz22_2 := bc BK361 2; have hfz22_0 := blk_frozen BK361.out 0; have hfz22_1 := blk_frozen BK361.out 1; have hfz22_2 := blk_frozen BK361.out 2) | ((with_reducible refine gate_callee (f := 25) rfl ?_); refine goesL_ (some 19) rfl rfl Tryd.func25 (by kernel_rfl) rfl #[.agg #[.string a0_0, .int .i64 a0_1, .slice A0_2 l0_2.length c0_2], .int .i64 a1] rfl (by (try simp only [List.map_toArray, List.map_cons, List.map_nil]); first | done | rfl | (simp only [List.length_drop, List.length_take]; rfl)) ?_; (with_reducible refine (crossbarref28_Find.calls k a0_0 a0_1 _ _ l0_2 a1 t364 _ ?side1 ?side2 A6.out).mono ?_); (case side1 => repeat (first | exact (Kd.C_below HR0_2.out HB.out) | (with_reducible refine Kd.C_alloc ?_ _) | (with_reducible refine Kd.C_drewN ?_ _) | (with_reducible refine Kd.C_drew ?_))); (case side2 => exact HC0_2.out); rintro e w23 ⟨rfl, hb⟩; refine ⟨_, rfl, ?_⟩; have n0_ := kl BK361 hb; have n1_ := kl BK362 hb; have n2_ := ls2 HB GE361 GE362 hb; clear BK361; clear BK362; clear HB; have BK361 := n0_; have BK362 := n1_; have HB := n2_; clear n0_ n1_ n2_; (try clear hb); (try clear hb2); (try clear hk); (try clear hi); have hcz24_0 := bc BK362 0; have hcz24_1 := bc BK362 1; have hcz24_2 := bc BK362 2; have hfz24_0 := blk_frozen BK362.out 0; have hfz24_1 := blk_frozen BK362.out 1; have hfz24_2 := blk_frozen BK362.out 2))
    refine bodyPost_ret (results_ct rfl _ _ gb362 31 #[.string (⟨#[]⟩ : ByteArray), .int .i64 0, .slice none 0 0] (0, 0) _ rfl (by (with_reducible repeat (first | refine blk_drewN ?_ _ | refine blk_drew ?_ | refine blk_alloc ?_ _)); refine blk_put (cs := #[.string (⟨#[]⟩ : ByteArray), .int .i64 0, .slice none 0 0]) ?_ 2 _ rfl; (with_reducible repeat (first | refine blk_drewN ?_ _ | refine blk_drew ?_ | refine blk_alloc ?_ _)); refine blk_put (cs := #[.string (⟨#[]⟩ : ByteArray), .int .i64 0, .slice none 0 0]) ?_ 1 _ rfl; (with_reducible repeat (first | refine blk_drewN ?_ _ | refine blk_drew ?_ | refine blk_alloc ?_ _)); refine blk_put (cs := #[.string (⟨#[]⟩ : ByteArray), .int .i64 0, .slice none 0 0]) ?_ 0 _ rfl; (with_reducible repeat (first | refine blk_drewN ?_ _ | refine blk_drew ?_ | refine blk_alloc ?_ _)); exact BK362.out) Tryd.underlying31 rfl (by kernel_rfl)) rfl ?_
    exact ⟨_, by first | rfl | (simp [errW_none, errW_some] <;> rfl) | (simp [*, errW_none, errW_some] <;> rfl), by first | exact Kd.R_nil _ _ _ _ _ | exact Kd.N_nil _ _ _ _ _ | exact Kd.V_nil _ _ _ _ _ | exact Kd.Q_nil _ _ _ _ _ | exact Kd.S_nil _ _ _ _ _, lb2 HB GE361 GE362⟩
   ·rw [if_neg c16] at H
    have c16b0 : decide (t364 < 0) = false := decide_eq_false c16
    clear c16
    by_cases c25 : 0 ≤ t364
    ·rw [if_pos c25] at H
     have c25b0 : decide (0 ≤ t364) = true := decide_eq_true c25
     clear c25
     by_cases c26 : t364 < (l0_2.length : Int)
     ·rw [if_pos c26] at H
      have c26b0 : decide (t364 < (l0_2.length : Int)) = true := decide_eq_true c26
      clear c26
      obtain ⟨ji27, hji27⟩ : ∃ j_ : Int, (mx 0 (wrap64 ((wrap64 (a0_1 + ((rd_T54 l0_2 t364).f1))) - a2))) = j_ := ⟨_, rfl⟩
      replace H : ((crossbarref28_without.f k l0_2 a1).bind fun t366 => (some (a0_0, ji27, t366, 0))) = some (r1, r2, r3, r4) := by first | (rw [hji27] at H; exact H) | (simp only [hji27] at H ⊢; exact H)
      (try rw [hji27] at A4)
      (try rw [hji27] at A6)
      (try (have hji27l : 0 ≤ ji27 := by (rw [← hji27]; unfold mx; (repeat' split) <;> omega)))
      (try (have hji27m : 0 ≤ ji27 := by omega))
      have hji27_ : (if 0 < (wrap64 ((wrap64 (a0_1 + ((rd_T54 l0_2 t364).f1))) - a2)) then (wrap64 ((wrap64 (a0_1 + ((rd_T54 l0_2 t364).f1))) - a2)) else 0) = ji27 := hji27
      replace H := Option.bind_eq_some_iff.mp H
      obtain ⟨t366, A280, H⟩ := H
      replace H : (some (a0_0, ji27, t366, 0)) = some (r1, r2, r3, r4) := H
      have A28 := Aside0.mk A280
      clear A280
      simp only [Option.some.injEq, Prod.mk.injEq] at H
      obtain ⟨rfl, rfl, rfl, rfl⟩ := H
      go_enter Tryd.func26, Tryd.ntmps26
      try go_wp2_with (first | ((with_reducible refine gate_dst (N := 3) rfl ?_); refine box_event ?hg (N := 3) ?hd (cs := #[.string a0_0, .int .i64 a0_1, .slice A0_2 l0_2.length c0_2]) (t := 31) ?hr ?_; (case hd => rfl); (case hg => rfl); (case hr => first | (go_simp; done) | (go_simp; rfl)); intro gb361 hg w29 hbox hb; have n0_ := ls0 HB hb; have n1_ := Aside0.mk (hbox); have n2_ := Aside0.mk ((by rw [hg]; exact (below_size (lb0 HB)) : w.heap.size ≤ gb361)); have n3_ := Aside0.mk ((by rw [hg]; exact (below_size (lb0 HB)) : w.heap.size ≤ gb361)); clear HB; have HB := n0_; have BK361 := n1_; have GW361 := n2_; have GE361 := n3_; clear n0_ n1_ n2_ n3_; clear hb hbox hg) | ((with_reducible refine gate_dst (N := 6) rfl ?_); refine box_event ?hg (N := 6) ?hd (cs := #[.string (⟨#[]⟩ : ByteArray), .int .i64 0, .slice none 0 0]) (t := 31) ?hr ?_; (case hd => rfl); (case hg => rfl); (case hr => first | (go_simp; done) | (go_simp; rfl)); intro gb362 hg w30 hbox hb; have n0_ := kl BK361 hb; have n1_ := ls1 HB GE361 hb; have n2_ := Aside0.mk (hbox); have n3_ := Aside0.mk ((by rw [hg]; exact (below_size (lb1 HB GE361)) : w.heap.size ≤ gb362)); have n4_ := Aside0.mk ((by rw [hg]; exact (below_size (lb1 HB GE361)) : w.heap.size ≤ gb362)); have n5_ := kn BK361 hg; have n6_ := km BK361 hg; clear BK361; clear HB; have BK361 := n0_; have HB := n1_; have BK362 := n2_; have GW362 := n3_; have GE362 := n4_; have NB361_362 := n5_; have NB362_361 := n6_; clear n0_ n1_ n2_ n3_ n4_ n5_ n6_; clear hb hbox hg; have hnb31 := NB361_362.out; have hnc31 := NB362_361.out; have hcz32_0 := bc BK361 0; have hcz32_1 := bc BK361 1; have hcz32_2 := bc BK361 2; have hfz32_0 := blk_frozen BK361.out 0; have hfz32_1 := blk_frozen BK361.out 1; have hfz32_2 := blk_frozen BK361.out 2) | ((with_reducible refine gate_callee (f := 30) rfl ?_); refine goesL_ (some 12) rfl rfl Tryd.func30 (by kernel_rfl) rfl #[.agg #[.string a0_0, .int .i64 a0_1, .slice A0_2 l0_2.length c0_2]] rfl (by (try simp only [List.map_toArray, List.map_cons, List.map_nil]); first | done | rfl | (simp only [List.length_drop, List.length_take]; rfl)) ?_; (with_reducible refine (crossbarref28_Check.calls k a0_0 a0_1 _ _ l0_2 t363 _ ?side1 ?side2 A4.out).mono ?_); (case side1 => repeat (first | exact (Kd.C_below HR0_2.out HB.out) | (with_reducible refine Kd.C_alloc ?_ _) | (with_reducible refine Kd.C_drewN ?_ _) | (with_reducible refine Kd.C_drew ?_))); (case side2 => exact HC0_2.out); rintro e w33 ⟨rfl, hb⟩; refine ⟨_, rfl, ?_⟩; have n0_ := kl BK361 hb; have n1_ := kl BK362 hb; have n2_ := ls2 HB GE361 GE362 hb; clear BK361; clear BK362; clear HB; have BK361 := n0_; have BK362 := n1_; have HB := n2_; clear n0_ n1_ n2_; (try clear hb); (try clear hb2); (try clear hk); (try clear hi); have hcz34_0 := bc BK361 0; have hcz34_1 := bc BK361 1; have hcz34_2 := bc BK361 2; have hfz34_0 := blk_frozen BK361.out 0; have hfz34_1 := blk_frozen BK361.out 1; have hfz34_2 := blk_frozen BK361.out 2) | ((with_reducible refine gate_callee (f := 25) rfl ?_); refine goesL_ (some 19) rfl rfl Tryd.func25 (by kernel_rfl) rfl #[.agg #[.string a0_0, .int .i64 a0_1, .slice A0_2 l0_2.length c0_2], .int .i64 a1] rfl (by (try simp only [List.map_toArray, List.map_cons, List.map_nil]); first | done | rfl | (simp only [List.length_drop, List.length_take]; rfl)) ?_; (with_reducible refine (crossbarref28_Find.calls k a0_0 a0_1 _ _ l0_2 a1 t364 _ ?side1 ?side2 A6.out).mono ?_); (case side1 => repeat (first | exact (Kd.C_below HR0_2.out HB.out) | (with_reducible refine Kd.C_alloc ?_ _) | (with_reducible refine Kd.C_drewN ?_ _) | (with_reducible refine Kd.C_drew ?_))); (case side2 => exact HC0_2.out); rintro e w35 ⟨rfl, hb⟩; refine ⟨_, rfl, ?_⟩; have n0_ := kl BK361 hb; have n1_ := kl BK362 hb; have n2_ := ls2 HB GE361 GE362 hb; clear BK361; clear BK362; clear HB; have BK361 := n0_; have BK362 := n1_; have HB := n2_; clear n0_ n1_ n2_; (try clear hb); (try clear hb2); (try clear hk); (try clear hi)))
      have n0_ := Aside0.mk (blk_drew BK361.out)
      have n1_ := Aside0.mk (blk_drew BK362.out)
      have n2_ := Aside0.mk (below_drew1 HB.out)
      clear BK361
      clear BK362
      clear HB
      have BK361 := n0_
      have BK362 := n1_
      have HB := n2_
      clear n0_ n1_ n2_
      have p365 : 0 ≤ (t364 : Int) := of_decide_eq_true (by first | (with_reducible assumption) | assumption)
      have q365 : t364 < (l0_2.length : Int) := of_decide_eq_true (by first | (with_reducible assumption) | assumption)
      obtain ⟨ad365, e365, hx365_0, hx365_1, hx365_2⟩ := at_T54 HR0_2.out t364 p365 q365
      have hw365_2 := hx365_2
      have hw365_1 := hx365_1
      have hw365_0 := hx365_0
      cases e365
      replace hx365_0 := (HB.out.cell (World.block_lt_of_cell? w _ hx365_0)).trans hx365_0
      replace hx365_1 := (HB.out.cell (World.block_lt_of_cell? w _ hx365_1)).trans hx365_1
      replace hx365_2 := (HB.out.cell (World.block_lt_of_cell? w _ hx365_2)).trans hx365_2
      replace p365 := eq_true p365
      replace q365 := eq_true q365
      refine start_ (n := 10) (S := fun w' => w'.cell? ⟨gb361, 0, none⟩ = some (.string a0_0) ∧ w'.cell? ⟨gb361, 1, none⟩ = some (.int .i64 a0_1) ∧ w'.cell? ⟨gb361, 2, none⟩ = some (.slice (some ad365) l0_2.length c0_2) ∧ w'.cell? (ad365.add ((t364).toNat * 3)) = some (.int .i64 ((rd_T54 l0_2 t364).f0)) ∧ w'.cell? ⟨(ad365.add ((t364).toNat * 3)).block, (ad365.add ((t364).toNat * 3)).off + 1, none⟩ = some (.int .i64 ((rd_T54 l0_2 t364).f1)) ∧ w'.cell? ⟨(ad365.add ((t364).toNat * 3)).block, (ad365.add ((t364).toNat * 3)).off + 2, none⟩ = some (.int .i64 ((rd_T54 l0_2 t364).f2))) (ds := []) #[false, false, false, false, false, false, false, false, false, false] (by kernel_rfl) rfl rfl ⟨(blk_cell BK361.out 0).trans rfl, (blk_cell BK361.out 1).trans rfl, (blk_cell BK361.out 2).trans rfl, ((HB.out.cell (World.block_lt_of_cell? w _ hw365_0)).trans hw365_0), ((HB.out.cell (World.block_lt_of_cell? w _ hw365_1)).trans hw365_1), ((HB.out.cell (World.block_lt_of_cell? w _ hw365_2)).trans hw365_2)⟩ (fun hHeld => ?_); refine with_tabW crossbarref28_Settle.tab7 crossbarref28_Settle.bits7 (fun HT_ HW_ => ?_)
      generalize w35.drew = w36 at BK361 BK362 HB hx365_0 hx365_1 hx365_2 hHeld ⊢
      refine p_ 0 27 HT_ ?_
      refine p_ 2 29 HT_ ?_
      refine p_ 4 31 HT_ ?_
      refine t_ 1 28 HT_ HW_ rfl rfl hHeld (by rintro w' ⟨s0, s1, s2, s3, s4, s5⟩; go_simp; with_reducible rfl) ?_
      refine t_ 3 30 HT_ HW_ rfl rfl hHeld (by rintro w' ⟨s0, s1, s2, s3, s4, s5⟩; go_simp; with_reducible rfl) ?_
      refine p_ 5 32 HT_ ?_
      refine p_ 6 33 HT_ ?_
      refine t_ 7 34 HT_ HW_ rfl rfl hHeld (by rintro w' ⟨s0, s1, s2, s3, s4, s5⟩; go_simp; with_reducible rfl) ?_
      refine p_ 8 35 HT_ ?_
      refine p_ 9 10 HT_ ?_
      refine done_ (done_of HT_.out (by kernel_rfl)) ?_
      try go_wp2
      have n0_ := Aside0.mk (blk_drew BK361.out)
      have n1_ := Aside0.mk (blk_drew BK362.out)
      have n2_ := Aside0.mk (below_drew1 HB.out)
      clear BK361
      clear BK362
      clear HB
      have BK361 := n0_
      have BK362 := n1_
      have HB := n2_
      clear n0_ n1_ n2_
      refine start_ (n := 13) (S := fun w' => w'.cell? ⟨gb361, 0, none⟩ = some (.string a0_0) ∧ w'.cell? ⟨gb361, 1, none⟩ = some (.int .i64 a0_1) ∧ w'.cell? ⟨gb361, 2, none⟩ = some (.slice (some ad365) l0_2.length c0_2)) (ds := []) #[false, false, false, false, false, false, false, false, false, false, false, false, false] (by kernel_rfl) rfl rfl ⟨(blk_cell BK361.out 0).trans rfl, (blk_cell BK361.out 1).trans rfl, (blk_cell BK361.out 2).trans rfl⟩ (fun hHeld => ?_); refine with_tabW crossbarref28_Settle.tab8 crossbarref28_Settle.bits8 (fun HT_ HW_ => ?_)
      generalize w36.drew = w37 at BK361 BK362 HB hHeld ⊢
      refine p_ 0 36 HT_ ?_
      refine p_ 2 38 HT_ ?_
      refine p_ 3 39 HT_ ?_
      refine p_ 4 40 HT_ ?_
      refine p_ 5 41 HT_ ?_
      refine p_ 6 42 HT_ ?_
      refine p_ 8 44 HT_ ?_
      refine t_ 1 37 HT_ HW_ rfl rfl hHeld (by rintro w' ⟨s0, s1, s2⟩; go_simp; with_reducible rfl) ?_
      refine t_ 7 43 HT_ HW_ rfl rfl hHeld (by rintro w' ⟨s0, s1, s2⟩; go_simp; with_reducible rfl) ?_
      refine o_ 9 45 HT_ (fun K hK => ?_)
      refine goes_ Tryd.func60 (by kernel_rfl) rfl #[.slice (some ad365) l0_2.length c0_2, .int .i64 a1] (by rfl) rfl rfl (by (try simp only [List.map_toArray, List.map_cons, List.map_nil]); first | done | rfl | (simp only [List.length_drop, List.length_take]; rfl)) ?_
      with_reducible refine (crossbarref28_without.calls k _ _ l0_2 a1 t366 _ ?side1 ?side2 A28.out).mono ?_
      (case side1 => repeat (first | exact (Kd.C_below HR0_2.out HB.out) | (with_reducible refine Kd.C_alloc ?_ _) | (with_reducible refine Kd.C_drewN ?_ _) | (with_reducible refine Kd.C_drew ?_)))
      (case side2 => exact HC0_2.out)
      rintro e w38 ⟨v367, rfl, ho0, hb⟩
      refine ⟨_, rfl, ?_⟩
      have n0_ := Aside0.mk (Kd.R_lower ho0 (below_size (lb2 HB GE361 GE362)))
      have n1_ := kl BK361 hb
      have n2_ := kl BK362 hb
      have n3_ := ls2 HB GE361 GE362 hb
      clear BK361
      clear BK362
      clear HB
      have HO368 := n0_
      have BK361 := n1_
      have BK362 := n2_
      have HB := n3_
      clear n0_ n1_ n2_ n3_
      (try clear hb)
      (try clear hb2)
      (try clear hk)
      (try clear hi)
      (try clear ho0)
      obtain ⟨Ao39, co39, eo39⟩ := Kd.R_slice HO368.out
      (first | subst eo39 | (injection eo39 with f1_ f2_ f3_; have f4_ := f1_.symm; have f5_ := f3_.symm; clear f1_ f2_ f3_; subst f4_; subst f5_))
      refine hK.out _ _ ⟨(blk_cell BK361.out 0).trans rfl, (blk_cell BK361.out 1).trans rfl, (blk_cell BK361.out 2).trans rfl⟩ (fun hHeld => ?_)
      clear hK K
      refine n_ 45 ?_
      refine p_ 10 46 HT_ ?_
      refine one_ (i := 11) (N := none) #[true, true, true, true, true, true, true, true, true, true, true, true, false] rfl rfl (one_of HT_.out (by kernel_rfl)) (by decide) (fun K hK => ?_)
      have hs40 : w38.cell? ⟨gb362, 0, none⟩ = some (.string (⟨#[]⟩ : ByteArray)) := (blk_cell BK362.out 0).trans rfl
      have hfs40 := blk_frozen BK362.out 0
      have hns40_0 := NB361_362.out
      have hms40_0 := NB362_361.out
      have hs41 : w38.cell? ⟨gb362, 1, none⟩ = some (.int .i64 0) := (blk_cell BK362.out 1).trans rfl
      have hfs41 := blk_frozen BK362.out 1
      have hns41_0 := NB361_362.out
      have hms41_0 := NB362_361.out
      have hs42 : w38.cell? ⟨gb362, 2, none⟩ = some (.slice none 0 0) := (blk_cell BK362.out 2).trans rfl
      have hfs42 := blk_frozen BK362.out 2
      have hns42_0 := NB361_362.out
      have hms42_0 := NB362_361.out
      refine skip_ (w1 := ?_) (by rfl) rfl ?_ ?_
      rotate_left
      ·go_simp
       rfl
      refine hK.out _ _ ⟨((cell_far (p := ⟨gb362, _, none⟩) NB361_362.out _).trans (((cell_far (p := ⟨gb362, _, none⟩) NB361_362.out _).trans (((cell_far (p := ⟨gb362, _, none⟩) NB361_362.out _).trans (hHeld.1)))))), ((cell_far (p := ⟨gb362, _, none⟩) NB361_362.out _).trans (((cell_far (p := ⟨gb362, _, none⟩) NB361_362.out _).trans (((cell_far (p := ⟨gb362, _, none⟩) NB361_362.out _).trans (hHeld.2.1)))))), ((cell_far (p := ⟨gb362, _, none⟩) NB361_362.out _).trans (((cell_far (p := ⟨gb362, _, none⟩) NB361_362.out _).trans (((cell_far (p := ⟨gb362, _, none⟩) NB361_362.out _).trans (hHeld.2.2))))))⟩ (fun hHeld => ?_)
      clear hK K
      refine p_ 12 7 HT_ ?_
      refine done_ (done_of HT_.out (by kernel_rfl)) ?_
      try go_wp2
      refine bodyPost_ret (results_ct rfl _ _ gb362 31 #[.string a0_0, .int .i64 ji27, .slice Ao39 t366.length co39] (0, 0) _ rfl (by (with_reducible repeat (first | refine blk_drewN ?_ _ | refine blk_drew ?_ | refine blk_alloc ?_ _)); refine blk_put (cs := #[.string a0_0, .int .i64 ji27, .slice none 0 0]) ?_ 2 _ rfl; (with_reducible repeat (first | refine blk_drewN ?_ _ | refine blk_drew ?_ | refine blk_alloc ?_ _)); refine blk_put (cs := #[.string a0_0, .int .i64 0, .slice none 0 0]) ?_ 1 _ rfl; (with_reducible repeat (first | refine blk_drewN ?_ _ | refine blk_drew ?_ | refine blk_alloc ?_ _)); refine blk_put (cs := #[.string (⟨#[]⟩ : ByteArray), .int .i64 0, .slice none 0 0]) ?_ 0 _ rfl; (with_reducible repeat (first | refine blk_drewN ?_ _ | refine blk_drew ?_ | refine blk_alloc ?_ _)); exact BK362.out) Tryd.underlying31 rfl (by kernel_rfl)) rfl ?_
      exact ⟨_, by first | rfl | (simp [errW_none, errW_some] <;> rfl) | (simp only [← hji27]; first | rfl | (simp [errW_none, errW_some] <;> rfl)) | (simp [*, errW_none, errW_some] <;> rfl), by (with_reducible repeat (first | apply Kd.R_alloc | apply Kd.R_drewN | apply Kd.R_drew)); exact Kd.R_mono (Kd.R_far (p := ⟨gb362, 2, none⟩) (Kd.R_far (p := ⟨gb362, 1, none⟩) (Kd.R_far (p := ⟨gb362, 0, none⟩) (Kd.R_types HO368.out BK362.out (by decide)) (fun _ hk => hk.2) (.string a0_0)) (fun _ hk => hk.2) (.int .i64 ji27)) (fun _ hk => hk.2) (.slice Ao39 t366.length co39)) (fun _ hk => trivial), lb2 HB GE361 GE362⟩
     ·rw [if_neg c26] at H
      exact absurd H (by simp)
    ·rw [if_neg c25] at H
     exact absurd H (by simp)
 ·rw [if_neg c5] at H
  have c5b0 : (t363 == 0) = false := beq_eq_false_iff_ne.mpr c5
  have c5b1 : (t363 != 0) = true := bne_iff_ne.mpr c5
  simp only [Option.some.injEq, Prod.mk.injEq] at H
  obtain ⟨rfl, rfl, rfl, rfl⟩ := H
  go_enter Tryd.func26, Tryd.ntmps26
  go_wp2_with (first | ((with_reducible refine gate_dst (N := 3) rfl ?_); refine box_event ?hg (N := 3) ?hd (cs := #[.string a0_0, .int .i64 a0_1, .slice A0_2 l0_2.length c0_2]) (t := 31) ?hr ?_; (case hd => rfl); (case hg => rfl); (case hr => first | (go_simp; done) | (go_simp; rfl)); intro gb361 hg w43 hbox hb; have n0_ := ls0 HB hb; have n1_ := Aside0.mk (hbox); have n2_ := Aside0.mk ((by rw [hg]; exact (below_size (lb0 HB)) : w.heap.size ≤ gb361)); have n3_ := Aside0.mk ((by rw [hg]; exact (below_size (lb0 HB)) : w.heap.size ≤ gb361)); clear HB; have HB := n0_; have BK361 := n1_; have GW361 := n2_; have GE361 := n3_; clear n0_ n1_ n2_ n3_; clear hb hbox hg) | ((with_reducible refine gate_dst (N := 6) rfl ?_); refine box_event ?hg (N := 6) ?hd (cs := #[.string (⟨#[]⟩ : ByteArray), .int .i64 0, .slice none 0 0]) (t := 31) ?hr ?_; (case hd => rfl); (case hg => rfl); (case hr => first | (go_simp; done) | (go_simp; rfl)); intro gb362 hg w44 hbox hb; have n0_ := kl BK361 hb; have n1_ := ls1 HB GE361 hb; have n2_ := Aside0.mk (hbox); have n3_ := Aside0.mk ((by rw [hg]; exact (below_size (lb1 HB GE361)) : w.heap.size ≤ gb362)); have n4_ := Aside0.mk ((by rw [hg]; exact (below_size (lb1 HB GE361)) : w.heap.size ≤ gb362)); have n5_ := kn BK361 hg; have n6_ := km BK361 hg; clear BK361; clear HB; have BK361 := n0_; have HB := n1_; have BK362 := n2_; have GW362 := n3_; have GE362 := n4_; have NB361_362 := n5_; have NB362_361 := n6_; clear n0_ n1_ n2_ n3_ n4_ n5_ n6_; clear hb hbox hg; have hnb45 := NB361_362.out; have hnc45 := NB362_361.out; have hcz46_0 := bc BK361 0; have hcz46_1 := bc BK361 1; have hcz46_2 := bc BK361 2; have hfz46_0 := blk_frozen BK361.out 0; have hfz46_1 := blk_frozen BK361.out 1; have hfz46_2 := blk_frozen BK361.out 2) | ((with_reducible refine gate_callee (f := 30) rfl ?_); refine goesL_ (some 12) rfl rfl Tryd.func30 (by kernel_rfl) rfl #[.agg #[.string a0_0, .int .i64 a0_1, .slice A0_2 l0_2.length c0_2]] rfl (by (try simp only [List.map_toArray, List.map_cons, List.map_nil]); first | done | rfl | (simp only [List.length_drop, List.length_take]; rfl)) ?_; (with_reducible refine (crossbarref28_Check.calls k a0_0 a0_1 _ _ l0_2 t363 _ ?side1 ?side2 A4.out).mono ?_); (case side1 => repeat (first | exact (Kd.C_below HR0_2.out HB.out) | (with_reducible refine Kd.C_alloc ?_ _) | (with_reducible refine Kd.C_drewN ?_ _) | (with_reducible refine Kd.C_drew ?_))); (case side2 => exact HC0_2.out); rintro e w47 ⟨rfl, hb⟩; refine ⟨_, rfl, ?_⟩; have n0_ := kl BK361 hb; have n1_ := kl BK362 hb; have n2_ := ls2 HB GE361 GE362 hb; clear BK361; clear BK362; clear HB; have BK361 := n0_; have BK362 := n1_; have HB := n2_; clear n0_ n1_ n2_; (try clear hb); (try clear hb2); (try clear hk); (try clear hi); have hcz48_0 := bc BK362 0; have hcz48_1 := bc BK362 1; have hcz48_2 := bc BK362 2; have hfz48_0 := blk_frozen BK362.out 0; have hfz48_1 := blk_frozen BK362.out 1; have hfz48_2 := blk_frozen BK362.out 2))
  refine bodyPost_ret (results_ct rfl _ _ gb362 31 #[.string (⟨#[]⟩ : ByteArray), .int .i64 0, .slice none 0 0] (0, 0) _ rfl (by (with_reducible repeat (first | refine blk_drewN ?_ _ | refine blk_drew ?_ | refine blk_alloc ?_ _)); refine blk_put (cs := #[.string (⟨#[]⟩ : ByteArray), .int .i64 0, .slice none 0 0]) ?_ 2 _ rfl; (with_reducible repeat (first | refine blk_drewN ?_ _ | refine blk_drew ?_ | refine blk_alloc ?_ _)); refine blk_put (cs := #[.string (⟨#[]⟩ : ByteArray), .int .i64 0, .slice none 0 0]) ?_ 1 _ rfl; (with_reducible repeat (first | refine blk_drewN ?_ _ | refine blk_drew ?_ | refine blk_alloc ?_ _)); refine blk_put (cs := #[.string (⟨#[]⟩ : ByteArray), .int .i64 0, .slice none 0 0]) ?_ 0 _ rfl; (with_reducible repeat (first | refine blk_drewN ?_ _ | refine blk_drew ?_ | refine blk_alloc ?_ _)); exact BK362.out) Tryd.underlying31 rfl (by kernel_rfl)) rfl ?_
  exact ⟨_, by first | rfl | (simp [errW_none, errW_some] <;> rfl) | (simp [*, errW_none, errW_some] <;> rfl), by first | exact Kd.R_nil _ _ _ _ _ | exact Kd.N_nil _ _ _ _ _ | exact Kd.V_nil _ _ _ _ _ | exact Kd.Q_nil _ _ _ _ _ | exact Kd.S_nil _ _ _ _ _, lb2 HB GE361 GE362⟩

end Go.Proofs.YtldpacphackdjaaDoor.Print
/- That the call of function 28 (crossbarref28_Deposit) answers what the Lean function of the same name answers, at every input at which that one answers. (Written by a program of the session, which drives the kit's printer.) -/
namespace Go.Proofs.YtldpacphackdjaaDoor.Print
open Go.RowKit Go.Proofs.YtldpacphackdjaaDoorW.PrintWords Go.Proofs.YtldpacphackdjaaDoorW.PrintLast Go.Proofs.YtldpacphackdjaaDoorW.PrintMore
attribute [local go_sem] max2_int min2_int max_two min_two max_three min_three max_four min_four   -- for this text's walks alone
set_option linter.unusedVariables false
set_option linter.unusedSimpArgs false

/-! ### crossbarref28_Deposit: function 28 -/
def crossbarref28_Deposit.f (k : Nat) (a0_0 : ByteArray) (a0_1 : Int) (l0_2 : List (S54)) (a1 : Int) : Option (ByteArray × Int × (List (S54)) × Int) := (crossbarref28_Check.f k a0_0 a0_1 l0_2).bind fun t373 => (if t373 = 0 then ((crossbarref28_within.f a1).bind fun t374 => (if t374 = true then ((crossbarref28_Worth.f k a0_0 a0_1 l0_2).bind fun t375 => ((crossbarref28_within.f (wrap64 (t375 + a1))).bind fun t376 => (if t376 = true then ((some (([] : List (S54)) : List (S54))).bind fun y377 => (if y377.length + l0_2.length < 5864062014805 then (some (a0_0, wrap64 (a0_1 + a1), (y377 ++ l0_2), 0)) else (none))) else (some ((⟨#[]⟩ : ByteArray), 0, ([] : List (S54)), 2))))) else (some ((⟨#[]⟩ : ByteArray), 0, ([] : List (S54)), 1)))) else (some ((⟨#[]⟩ : ByteArray), 0, ([] : List (S54)), t373)))
def crossbarref28_Deposit.T8 : Bool × List (List Nat × List Nat) := (true, [([], []), ([0], [0]), ([], []), ([2], [2]), ([], []), ([3, 4], [3, 4]), ([], []), ([], []), ([7], [7]), ([6, 8], [6, 8]), ([1, 5, 9], [1, 5, 9]), ([10, 9, 0, 1, 2, 3, 4, 5, 6, 7, 8, 9, 10], [10]), ([11, 0, 1, 2, 3, 4, 5, 6, 7, 8, 9, 10, 11], [])])
def crossbarref28_Deposit.B8 : List Nat := [0, 1, 0, 4, 0, 28, 0, 0, 128, 448, 1023, 2047, 4095]
theorem crossbarref28_Deposit.tab8 : rtab .any (opsOf Tryd.f28 8) = crossbarref28_Deposit.T8 := by kernel_rfl
theorem crossbarref28_Deposit.bits8 : waitsOk crossbarref28_Deposit.T8.2 crossbarref28_Deposit.B8 = true := by kernel_rfl
set_option maxHeartbeats 8000000 in
set_option maxRecDepth 100000 in
theorem crossbarref28_Deposit.calls (k : Nat) (a0_0 : ByteArray) (a0_1 : Int) (A0_2 : Option Addr) (c0_2 : Nat) (l0_2 : List (S54)) (a1 : Int) (r1 : ByteArray) (r2 : Int) (r3 : List (S54)) (r4 : Int) (w : World) (hr0_2 : Kd.C k54 w A0_2 l0_2.length l0_2) (hc0_2 : l0_2.length ≤ c0_2) (h : crossbarref28_Deposit.f k a0_0 a0_1 l0_2 a1 = some (r1, r2, r3, r4)) :
  Calls Tryd.prog 28 #[.agg #[.string a0_0, .int .i64 a0_1, .slice A0_2 l0_2.length c0_2], .int .i64 a1] w fun e w' => ∃ v2_ : Value, e = .returned (.tuple #[.agg #[.string r1, .int .i64 r2, v2_], .int .i64 r4]) ∧ Kd.R k54 54 w' w.heap.size (fun _ => True) v2_ r3 ∧ Below w.heap.size w w' := by
 have hu31 := Tryd.underlying31
 have HR0_2 := Aside0.mk hr0_2
 have HC0_2 := Aside0.mk hc0_2
 clear hr0_2 hc0_2
 have HB := Aside0.mk (Below.refl w.heap.size w)
 have H : ((crossbarref28_Check.f k a0_0 a0_1 l0_2).bind fun t373 => (if t373 = 0 then ((crossbarref28_within.f a1).bind fun t374 => (if t374 = true then ((crossbarref28_Worth.f k a0_0 a0_1 l0_2).bind fun t375 => ((crossbarref28_within.f (wrap64 (t375 + a1))).bind fun t376 => (if t376 = true then ((some (([] : List (S54)) : List (S54))).bind fun y377 => (if y377.length + l0_2.length < 5864062014805 then (some (a0_0, wrap64 (a0_1 + a1), (y377 ++ l0_2), 0)) else (none))) else (some ((⟨#[]⟩ : ByteArray), 0, ([] : List (S54)), 2))))) else (some ((⟨#[]⟩ : ByteArray), 0, ([] : List (S54)), 1)))) else (some ((⟨#[]⟩ : ByteArray), 0, ([] : List (S54)), t373)))) = some (r1, r2, r3, r4) := h
 clear h
 replace H := Option.bind_eq_some_iff.mp H
 obtain ⟨t373, A30, H⟩ := H
 replace H : (if t373 = 0 then ((crossbarref28_within.f a1).bind fun t374 => (if t374 = true then ((crossbarref28_Worth.f k a0_0 a0_1 l0_2).bind fun t375 => ((crossbarref28_within.f (wrap64 (t375 + a1))).bind fun t376 => (if t376 = true then ((some (([] : List (S54)) : List (S54))).bind fun y377 => (if y377.length + l0_2.length < 5864062014805 then (some (a0_0, wrap64 (a0_1 + a1), (y377 ++ l0_2), 0)) else (none))) else (some ((⟨#[]⟩ : ByteArray), 0, ([] : List (S54)), 2))))) else (some ((⟨#[]⟩ : ByteArray), 0, ([] : List (S54)), 1)))) else (some ((⟨#[]⟩ : ByteArray), 0, ([] : List (S54)), t373))) = some (r1, r2, r3, r4) := H
 have A3 := Aside0.mk A30
 clear A30
 by_cases c4 : t373 = 0
 ·rw [if_pos c4] at H
  have c4b0 : (t373 == 0) = true := beq_iff_eq.mpr c4
  have c4b1 : (t373 != 0) = false := bne_eq_false_iff_eq.mpr c4
  clear c4
  replace H := Option.bind_eq_some_iff.mp H
  obtain ⟨t374, A50, H⟩ := H
  replace H : (if t374 = true then ((crossbarref28_Worth.f k a0_0 a0_1 l0_2).bind fun t375 => ((crossbarref28_within.f (wrap64 (t375 + a1))).bind fun t376 => (if t376 = true then ((some (([] : List (S54)) : List (S54))).bind fun y377 => (if y377.length + l0_2.length < 5864062014805 then (some (a0_0, wrap64 (a0_1 + a1), (y377 ++ l0_2), 0)) else (none))) else (some ((⟨#[]⟩ : ByteArray), 0, ([] : List (S54)), 2))))) else (some ((⟨#[]⟩ : ByteArray), 0, ([] : List (S54)), 1))) = some (r1, r2, r3, r4) := H
  have A5 := Aside0.mk A50
  clear A50
  by_cases c6 : t374 = true
  ·subst c6
   have H1 : ((crossbarref28_Worth.f k a0_0 a0_1 l0_2).bind fun t375 => ((crossbarref28_within.f (wrap64 (t375 + a1))).bind fun t376 => (if t376 = true then ((some (([] : List (S54)) : List (S54))).bind fun y377 => (if y377.length + l0_2.length < 5864062014805 then (some (a0_0, wrap64 (a0_1 + a1), (y377 ++ l0_2), 0)) else (none))) else (some ((⟨#[]⟩ : ByteArray), 0, ([] : List (S54)), 2))))) = some (r1, r2, r3, r4) := by rw [if_pos rfl] at H; exact H
   clear H
   have H := H1
   clear H1
   replace H := Option.bind_eq_some_iff.mp H
   obtain ⟨t375, A70, H⟩ := H
   replace H : ((crossbarref28_within.f (wrap64 (t375 + a1))).bind fun t376 => (if t376 = true then ((some (([] : List (S54)) : List (S54))).bind fun y377 => (if y377.length + l0_2.length < 5864062014805 then (some (a0_0, wrap64 (a0_1 + a1), (y377 ++ l0_2), 0)) else (none))) else (some ((⟨#[]⟩ : ByteArray), 0, ([] : List (S54)), 2)))) = some (r1, r2, r3, r4) := H
   have A7 := Aside0.mk A70
   clear A70
   replace H := Option.bind_eq_some_iff.mp H
   obtain ⟨t376, A80, H⟩ := H
   replace H : (if t376 = true then ((some (([] : List (S54)) : List (S54))).bind fun y377 => (if y377.length + l0_2.length < 5864062014805 then (some (a0_0, wrap64 (a0_1 + a1), (y377 ++ l0_2), 0)) else (none))) else (some ((⟨#[]⟩ : ByteArray), 0, ([] : List (S54)), 2))) = some (r1, r2, r3, r4) := H
   have A8 := Aside0.mk A80
   clear A80
   by_cases c9 : t376 = true
   ·subst c9
    have H1 : ((some (([] : List (S54)) : List (S54))).bind fun y377 => (if y377.length + l0_2.length < 5864062014805 then (some (a0_0, wrap64 (a0_1 + a1), (y377 ++ l0_2), 0)) else (none))) = some (r1, r2, r3, r4) := by rw [if_pos rfl] at H; exact H
    clear H
    have H := H1
    clear H1
    obtain ⟨y377, hy377⟩ : ∃ y_ : List (S54), y_ = (([] : List (S54))) := ⟨_, rfl⟩
    replace H : (if y377.length + l0_2.length < 5864062014805 then (some (a0_0, wrap64 (a0_1 + a1), (y377 ++ l0_2), 0)) else (none)) = some (r1, r2, r3, r4) := by first | (rw [hy377]; with_reducible exact H) | (have H2_ := (Option.bind_some _ _).symm.trans H; rw [hy377]; with_reducible exact H2_) | (have H2_ := (Option.bind_some _ _).symm.trans H; with_reducible exact H2_) | with_reducible exact H | (rw [hy377]; exact H) | exact H
    have Ny377 := Aside0.mk hy377
    clear hy377
    by_cases c10 : y377.length + l0_2.length < 5864062014805
    ·rw [if_pos c10] at H
     have LMc10 := Aside0.mk c10
     clear c10
     obtain ⟨y380, hy380⟩ : ∃ y_ : List (S54), y_ = (y377 ++ l0_2) := ⟨_, rfl⟩
     replace H : (some (a0_0, wrap64 (a0_1 + a1), y380, 0)) = some (r1, r2, r3, r4) := by first | (rw [hy380]; with_reducible exact H) | (have H2_ := (Option.bind_some _ _).symm.trans H; rw [hy380]; with_reducible exact H2_) | (have H2_ := (Option.bind_some _ _).symm.trans H; with_reducible exact H2_) | with_reducible exact H | (rw [hy380]; exact H) | exact H
     have Ny380 := Aside0.mk hy380
     clear hy380
     simp only [Option.some.injEq, Prod.mk.injEq] at H
     obtain ⟨rfl, rfl, rfl, rfl⟩ := H
     go_enter Tryd.func28, Tryd.ntmps28
     try go_wp2_with (first | ((with_reducible refine gate_dst (N := 2) rfl ?_); refine box_event ?hg (N := 2) ?hd (cs := #[.string a0_0, .int .i64 a0_1, .slice A0_2 l0_2.length c0_2]) (t := 31) ?hr ?_; (case hd => rfl); (case hg => rfl); (case hr => first | (go_simp; done) | (go_simp; rfl)); intro gb371 hg w11 hbox hb; have n0_ := ls0 HB hb; have n1_ := Aside0.mk (hbox); have n2_ := Aside0.mk ((by rw [hg]; exact (below_size (lb0 HB)) : w.heap.size ≤ gb371)); have n3_ := Aside0.mk ((by rw [hg]; exact (below_size (lb0 HB)) : w.heap.size ≤ gb371)); clear HB; have HB := n0_; have BK371 := n1_; have GW371 := n2_; have GE371 := n3_; clear n0_ n1_ n2_ n3_; clear hb hbox hg) | ((with_reducible refine gate_dst (N := 4) rfl ?_); refine box_event ?hg (N := 4) ?hd (cs := #[.string (⟨#[]⟩ : ByteArray), .int .i64 0, .slice none 0 0]) (t := 31) ?hr ?_; (case hd => rfl); (case hg => rfl); (case hr => first | (go_simp; done) | (go_simp; rfl)); intro gb372 hg w12 hbox hb; have n0_ := kl BK371 hb; have n1_ := ls1 HB GE371 hb; have n2_ := Aside0.mk (hbox); have n3_ := Aside0.mk ((by rw [hg]; exact (below_size (lb1 HB GE371)) : w.heap.size ≤ gb372)); have n4_ := Aside0.mk ((by rw [hg]; exact (below_size (lb1 HB GE371)) : w.heap.size ≤ gb372)); have n5_ := kn BK371 hg; have n6_ := km BK371 hg; clear BK371; clear HB; have BK371 := n0_; have HB := n1_; have BK372 := n2_; have GW372 := n3_; have GE372 := n4_; have NB371_372 := n5_; have NB372_371 := n6_; clear n0_ n1_ n2_ n3_ n4_ n5_ n6_; clear hb hbox hg; have hnb13 := NB371_372.out; have hnc13 := NB372_371.out; have hcz14_0 := bc BK371 0; have hcz14_1 := bc BK371 1; have hcz14_2 := bc BK371 2; have hfz14_0 := blk_frozen BK371.out 0; have hfz14_1 := blk_frozen BK371.out 1; have hfz14_2 := blk_frozen BK371.out 2) | ((with_reducible refine gate_callee (f := 30) rfl ?_); refine goesL_ (some 8) rfl rfl Tryd.func30 (by kernel_rfl) rfl #[.agg #[.string a0_0, .int .i64 a0_1, .slice A0_2 l0_2.length c0_2]] rfl (by (try simp only [List.map_toArray, List.map_cons, List.map_nil]); first | done | rfl | (simp only [List.length_drop, List.length_take]; rfl)) ?_; (with_reducible refine (crossbarref28_Check.calls k a0_0 a0_1 _ _ l0_2 t373 _ ?side1 ?side2 A3.out).mono ?_); (case side1 => repeat (first | exact (Kd.C_below HR0_2.out HB.out) | (with_reducible refine Kd.C_alloc ?_ _) | (with_reducible refine Kd.C_drewN ?_ _) | (with_reducible refine Kd.C_drew ?_))); (case side2 => exact HC0_2.out); rintro e w15 ⟨rfl, hb⟩; refine ⟨_, rfl, ?_⟩; have n0_ := kl BK371 hb; have n1_ := kl BK372 hb; have n2_ := ls2 HB GE371 GE372 hb; clear BK371; clear BK372; clear HB; have BK371 := n0_; have BK372 := n1_; have HB := n2_; clear n0_ n1_ n2_; (try clear hb); (try clear hb2); (try clear hk); (try clear hi)) | ((with_reducible refine gate_callee (f := 56) rfl ?_); refine goesL_ (some 14) rfl rfl Tryd.func56 (by kernel_rfl) rfl #[.int .i64 a1] rfl (by (try simp only [List.map_toArray, List.map_cons, List.map_nil]); first | done | rfl | (simp only [List.length_drop, List.length_take]; rfl)) ?_; (with_reducible refine (crossbarref28_within.calls a1 true _ A5.out).mono ?_); rintro e w' ⟨rfl, ⟨nd, rfl⟩⟩; refine ⟨_, rfl, ?_⟩; (try (rw [drewN_self w15]; generalize hq_ : World.drewN w15 _ = w15; have n0_ : Aside0 (w15.heap[gb371]? = some (.cells #[.string a0_0, .int .i64 a0_1, .slice A0_2 l0_2.length c0_2] 31 (0, 0))) := ⟨by rw [← hq_]; exact (kb BK371)⟩; have n1_ : Aside0 (w15.heap[gb372]? = some (.cells #[.string (⟨#[]⟩ : ByteArray), .int .i64 0, .slice none 0 0] 31 (0, 0))) := ⟨by rw [← hq_]; exact (kb BK372)⟩; have n2_ : Aside0 (Below w.heap.size w w15) := ⟨by rw [← hq_]; exact (lb2 HB GE371 GE372)⟩; clear BK371 BK372 HB hq_; have BK371 := n0_; have BK372 := n1_; have HB := n2_; clear n0_ n1_ n2_)); have hcz16_0 := bc BK371 0; have hcz16_1 := bc BK371 1; have hcz16_2 := bc BK371 2; have hfz16_0 := blk_frozen BK371.out 0; have hfz16_1 := blk_frozen BK371.out 1; have hfz16_2 := blk_frozen BK371.out 2) | ((with_reducible refine gate_callee (f := 32) rfl ?_); refine goesL_ (some 18) rfl rfl Tryd.func32 (by kernel_rfl) rfl #[.agg #[.string a0_0, .int .i64 a0_1, .slice A0_2 l0_2.length c0_2]] rfl (by (try simp only [List.map_toArray, List.map_cons, List.map_nil]); first | done | rfl | (simp only [List.length_drop, List.length_take]; rfl)) ?_; (with_reducible refine (crossbarref28_Worth.calls k a0_0 a0_1 _ _ l0_2 t375 _ ?side1 ?side2 A7.out).mono ?_); (case side1 => repeat (first | exact (Kd.C_below HR0_2.out HB.out) | (with_reducible refine Kd.C_alloc ?_ _) | (with_reducible refine Kd.C_drewN ?_ _) | (with_reducible refine Kd.C_drew ?_))); (case side2 => exact HC0_2.out); rintro e w17 ⟨rfl, hb⟩; refine ⟨_, rfl, ?_⟩; have n0_ := kl BK371 hb; have n1_ := kl BK372 hb; have n2_ := ls2 HB GE371 GE372 hb; clear BK371; clear BK372; clear HB; have BK371 := n0_; have BK372 := n1_; have HB := n2_; clear n0_ n1_ n2_; (try clear hb); (try clear hb2); (try clear hk); (try clear hi)) | ((with_reducible refine gate_callee (f := 56) rfl ?_); refine goesL_ (some 21) rfl rfl Tryd.func56 (by kernel_rfl) rfl #[.int .i64 (wrap64 (t375 + a1))] rfl (by (try simp only [List.map_toArray, List.map_cons, List.map_nil]); first | done | rfl | (simp only [List.length_drop, List.length_take]; rfl)) ?_; (with_reducible refine (crossbarref28_within.calls (wrap64 (t375 + a1)) true _ A8.out).mono ?_); rintro e w' ⟨rfl, ⟨nd, rfl⟩⟩; refine ⟨_, rfl, ?_⟩; (try (rw [drewN_self w17]; generalize hq_ : World.drewN w17 _ = w17; have n0_ : Aside0 (w17.heap[gb371]? = some (.cells #[.string a0_0, .int .i64 a0_1, .slice A0_2 l0_2.length c0_2] 31 (0, 0))) := ⟨by rw [← hq_]; exact (kb BK371)⟩; have n1_ : Aside0 (w17.heap[gb372]? = some (.cells #[.string (⟨#[]⟩ : ByteArray), .int .i64 0, .slice none 0 0] 31 (0, 0))) := ⟨by rw [← hq_]; exact (kb BK372)⟩; have n2_ : Aside0 (Below w.heap.size w w17) := ⟨by rw [← hq_]; exact (lb2 HB GE371 GE372)⟩; clear BK371 BK372 HB hq_; have BK371 := n0_; have BK372 := n1_; have HB := n2_; clear n0_ n1_ n2_))))
     have n0_ := Aside0.mk (blk_drew BK371.out)
     have n1_ := Aside0.mk (blk_drew BK372.out)
     have n2_ := Aside0.mk (below_drew1 HB.out)
     clear BK371
     clear BK372
     clear HB
     have BK371 := n0_
     have BK372 := n1_
     have HB := n2_
     clear n0_ n1_ n2_
     refine start_ (n := 13) (S := fun w' => w'.cell? ⟨gb371, 0, none⟩ = some (.string a0_0) ∧ w'.cell? ⟨gb371, 1, none⟩ = some (.int .i64 a0_1) ∧ w'.cell? ⟨gb371, 2, none⟩ = some (.slice A0_2 l0_2.length c0_2)) (ds := []) #[false, false, false, false, false, false, false, false, false, false, false, false, false] (by kernel_rfl) rfl rfl ⟨(blk_cell BK371.out 0).trans rfl, (blk_cell BK371.out 1).trans rfl, (blk_cell BK371.out 2).trans rfl⟩ (fun hHeld => ?_); refine with_tabW crossbarref28_Deposit.tab8 crossbarref28_Deposit.bits8 (fun HT_ HW_ => ?_)
     generalize w17.drew = w18 at BK371 BK372 HB hHeld ⊢
     refine p_ 0 24 HT_ ?_
     refine p_ 2 26 HT_ ?_
     refine p_ 4 28 HT_ ?_
     refine p_ 7 31 HT_ ?_
     refine t_ 1 25 HT_ HW_ rfl rfl hHeld (by rintro w' ⟨s0, s1, s2⟩; go_simp; with_reducible rfl) ?_
     refine t_ 3 27 HT_ HW_ rfl rfl hHeld (by rintro w' ⟨s0, s1, s2⟩; go_simp; with_reducible rfl) ?_
     refine p_ 5 29 HT_ ?_
     refine t_ 8 32 HT_ HW_ rfl rfl hHeld (by rintro w' ⟨s0, s1, s2⟩; go_simp; with_reducible rfl) ?_
     refine o_ 6 30 HT_ (fun K hK => ?_)
     refine Kd.R_lit_step k54 _ 54 ?hg (N := 30) ?hd (xs := ([] : List (S54))) (inner := []) (ok := fun _ => True) (okp := fun _ => True) ?hr ?hp (fun _ hk => hk) trivial (Below.refl _ _) (Nat.le_refl _) (by simp) ?_; (case hd => rfl); (case hg => rfl); (case hr => first | (go_simp; done) | (go_simp; rfl)); (case hp => exact (Reps.none _ _))
     intro v378 w19 ho20 hb hg_ hnew_
     clear hg_ hnew_
     (first | rw [← Ny377.out] at ho20 | (simp only [Int.reduceToNat] at ho20; rw [← Ny377.out] at ho20))
     have n0_ := Aside0.mk (Kd.R_lower ho20 (below_size (lb2 HB GE371 GE372)))
     have n1_ := kl BK371 hb
     have n2_ := kl BK372 hb
     have n3_ := ls2 HB GE371 GE372 hb
     clear BK371
     clear BK372
     clear HB
     have HO379 := n0_
     have BK371 := n1_
     have BK372 := n2_
     have HB := n3_
     clear n0_ n1_ n2_ n3_
     clear hb ho20
     refine hK.out _ _ ⟨(blk_cell BK371.out 0).trans rfl, (blk_cell BK371.out 1).trans rfl, (blk_cell BK371.out 2).trans rfl⟩ (fun hHeld => ?_)
     clear hK K
     refine n_ 30 ?_
     refine o_ 9 33 HT_ (fun K hK => ?_)
     refine Kd.R_append_rows_step k54 (w0 := w) w.heap.size (by rfl) (.tmp 30) (.tmp 32) 29 54 (.agg #[(.int .i64 0), (.int .i64 0), (.int .i64 0)]) 24 rfl Tryd.underlying29 info54 rfl (by decide) (by omega) v378 y377 l0_2 _ _ _ (fun _ => True) (fun _ => False) rfl rfl ?aO ?aR (fun _ _ h => h) (fun _ h => h.elim) ?aF ?aB ?aS ?aL ?_
     (case aR => repeat (first | exact (Kd.C_below HR0_2.out HB.out) | (with_reducible refine Kd.C_alloc ?_ _) | (with_reducible refine Kd.C_drewN ?_ _) | (with_reducible refine Kd.C_drew ?_)))
     (case aB => exact (lb2 HB GE371 GE372))
     (case aF => exact (fun _ _ => trivial))
     (case aO => exact (rk HO379))
     (case aS => exact (below_size (lb2 HB GE371 GE372)))
     (case aL => have := LMc10.out; omega)
     intro v381 w21 ho hb hg hat
     rw [← Ny380.out] at ho
     have n0_ := Aside0.mk (blk_grown (g := gb371) (o := .cells #[.string a0_0, .int .i64 a0_1, .slice A0_2 l0_2.length c0_2] 31 (0, 0)) (kb BK371) hg (Kd.R_ne HO379.out BK371.out (by decide)))
     have n1_ := Aside0.mk (blk_grown (g := gb372) (o := .cells #[.string (⟨#[]⟩ : ByteArray), .int .i64 0, .slice none 0 0] 31 (0, 0)) (kb BK372) hg (Kd.R_ne HO379.out BK372.out (by decide)))
     have n2_ := Aside0.mk (hb)
     have n3_ := Aside0.mk (ho)
     clear BK371
     clear BK372
     clear HB
     clear HO379
     have BK371 := n0_
     have BK372 := n1_
     have HB := n2_
     have HO382 := n3_
     clear n0_ n1_ n2_ n3_
     clear ho hb hg hat
     obtain ⟨Ao22, co22, eo22⟩ := Kd.R_slice HO382.out
     (first | subst eo22 | (injection eo22 with f1_ f2_ f3_; have f4_ := f1_.symm; have f5_ := f3_.symm; clear f1_ f2_ f3_; subst f4_; subst f5_))
     refine hK.out _ _ ⟨(blk_cell BK371.out 0).trans rfl, (blk_cell BK371.out 1).trans rfl, (blk_cell BK371.out 2).trans rfl⟩ (fun hHeld => ?_)
     clear hK K
     refine n_ 33 ?_
     refine p_ 10 34 HT_ ?_
     refine one_ (i := 11) (N := none) #[true, true, true, true, true, true, true, true, true, true, true, true, false] rfl rfl (one_of HT_.out (by kernel_rfl)) (by decide) (fun K hK => ?_)
     have hs23 : w21.cell? ⟨gb372, 0, none⟩ = some (.string (⟨#[]⟩ : ByteArray)) := (blk_cell BK372.out 0).trans rfl
     have hfs23 := blk_frozen BK372.out 0
     have hns23_0 := NB371_372.out
     have hms23_0 := NB372_371.out
     have hs24 : w21.cell? ⟨gb372, 1, none⟩ = some (.int .i64 0) := (blk_cell BK372.out 1).trans rfl
     have hfs24 := blk_frozen BK372.out 1
     have hns24_0 := NB371_372.out
     have hms24_0 := NB372_371.out
     have hs25 : w21.cell? ⟨gb372, 2, none⟩ = some (.slice none 0 0) := (blk_cell BK372.out 2).trans rfl
     have hfs25 := blk_frozen BK372.out 2
     have hns25_0 := NB371_372.out
     have hms25_0 := NB372_371.out
     refine skip_ (w1 := ?_) (by rfl) rfl ?_ ?_
     rotate_left
     ·go_simp
      rfl
     refine hK.out _ _ ⟨((cell_far (p := ⟨gb372, _, none⟩) NB371_372.out _).trans (((cell_far (p := ⟨gb372, _, none⟩) NB371_372.out _).trans (((cell_far (p := ⟨gb372, _, none⟩) NB371_372.out _).trans (hHeld.1)))))), ((cell_far (p := ⟨gb372, _, none⟩) NB371_372.out _).trans (((cell_far (p := ⟨gb372, _, none⟩) NB371_372.out _).trans (((cell_far (p := ⟨gb372, _, none⟩) NB371_372.out _).trans (hHeld.2.1)))))), ((cell_far (p := ⟨gb372, _, none⟩) NB371_372.out _).trans (((cell_far (p := ⟨gb372, _, none⟩) NB371_372.out _).trans (((cell_far (p := ⟨gb372, _, none⟩) NB371_372.out _).trans (hHeld.2.2))))))⟩ (fun hHeld => ?_)
     clear hK K
     refine p_ 12 5 HT_ ?_
     refine done_ (done_of HT_.out (by kernel_rfl)) ?_
     try go_wp2
     refine bodyPost_ret (results_ct rfl _ _ gb372 31 #[.string a0_0, .int .i64 (wrap64 (a0_1 + a1)), .slice Ao22 y380.length co22] (0, 0) _ rfl (by (with_reducible repeat (first | refine blk_drewN ?_ _ | refine blk_drew ?_ | refine blk_alloc ?_ _)); refine blk_put (cs := #[.string a0_0, .int .i64 (wrap64 (a0_1 + a1)), .slice none 0 0]) ?_ 2 _ rfl; (with_reducible repeat (first | refine blk_drewN ?_ _ | refine blk_drew ?_ | refine blk_alloc ?_ _)); refine blk_put (cs := #[.string a0_0, .int .i64 0, .slice none 0 0]) ?_ 1 _ rfl; (with_reducible repeat (first | refine blk_drewN ?_ _ | refine blk_drew ?_ | refine blk_alloc ?_ _)); refine blk_put (cs := #[.string (⟨#[]⟩ : ByteArray), .int .i64 0, .slice none 0 0]) ?_ 0 _ rfl; (with_reducible repeat (first | refine blk_drewN ?_ _ | refine blk_drew ?_ | refine blk_alloc ?_ _)); exact BK372.out) Tryd.underlying31 rfl (by kernel_rfl)) rfl ?_
     exact ⟨_, by first | rfl | (simp [errW_none, errW_some] <;> rfl) | (simp [*, errW_none, errW_some] <;> rfl), by (with_reducible repeat (first | apply Kd.R_alloc | apply Kd.R_drewN | apply Kd.R_drew)); exact Kd.R_mono (Kd.R_far (p := ⟨gb372, 2, none⟩) (Kd.R_far (p := ⟨gb372, 1, none⟩) (Kd.R_far (p := ⟨gb372, 0, none⟩) (Kd.R_types HO382.out BK372.out (by decide)) (fun _ hk => hk.2) (.string a0_0)) (fun _ hk => hk.2) (.int .i64 (wrap64 (a0_1 + a1)))) (fun _ hk => hk.2) (.slice Ao22 y380.length co22)) (fun _ hk => trivial), lb2 HB GE371 GE372⟩
    ·rw [if_neg c10] at H
     exact absurd H (by simp)
   ·replace c9 := Bool.eq_false_iff.mpr c9
    subst c9
    have H1 : (some ((⟨#[]⟩ : ByteArray), 0, ([] : List (S54)), 2)) = some (r1, r2, r3, r4) := by rw [if_neg (show ¬ (false = true) by decide)] at H; exact H
    clear H
    have H := H1
    clear H1
    simp only [Option.some.injEq, Prod.mk.injEq] at H
    obtain ⟨rfl, rfl, rfl, rfl⟩ := H
    go_enter Tryd.func28, Tryd.ntmps28
    go_wp2_with (first | ((with_reducible refine gate_dst (N := 2) rfl ?_); refine box_event ?hg (N := 2) ?hd (cs := #[.string a0_0, .int .i64 a0_1, .slice A0_2 l0_2.length c0_2]) (t := 31) ?hr ?_; (case hd => rfl); (case hg => rfl); (case hr => first | (go_simp; done) | (go_simp; rfl)); intro gb371 hg w26 hbox hb; have n0_ := ls0 HB hb; have n1_ := Aside0.mk (hbox); have n2_ := Aside0.mk ((by rw [hg]; exact (below_size (lb0 HB)) : w.heap.size ≤ gb371)); have n3_ := Aside0.mk ((by rw [hg]; exact (below_size (lb0 HB)) : w.heap.size ≤ gb371)); clear HB; have HB := n0_; have BK371 := n1_; have GW371 := n2_; have GE371 := n3_; clear n0_ n1_ n2_ n3_; clear hb hbox hg) | ((with_reducible refine gate_dst (N := 4) rfl ?_); refine box_event ?hg (N := 4) ?hd (cs := #[.string (⟨#[]⟩ : ByteArray), .int .i64 0, .slice none 0 0]) (t := 31) ?hr ?_; (case hd => rfl); (case hg => rfl); (case hr => first | (go_simp; done) | (go_simp; rfl)); intro gb372 hg w27 hbox hb; have n0_ := kl BK371 hb; have n1_ := ls1 HB GE371 hb; have n2_ := Aside0.mk (hbox); have n3_ := Aside0.mk ((by rw [hg]; exact (below_size (lb1 HB GE371)) : w.heap.size ≤ gb372)); have n4_ := Aside0.mk ((by rw [hg]; exact (below_size (lb1 HB GE371)) : w.heap.size ≤ gb372)); have n5_ := kn BK371 hg; have n6_ := km BK371 hg; clear BK371; clear HB; have BK371 := n0_; have HB := n1_; have BK372 := n2_; have GW372 := n3_; have GE372 := n4_; have NB371_372 := n5_; have NB372_371 := n6_; clear n0_ n1_ n2_ n3_ n4_ n5_ n6_; clear hb hbox hg; have hnb28 := NB371_372.out; have hnc28 := NB372_371.out; have hcz29_0 := bc BK371 0; have hcz29_1 := bc BK371 1; have hcz29_2 := bc BK371 2; have hfz29_0 := blk_frozen BK371.out 0; have hfz29_1 := blk_frozen BK371.out 1; have hfz29_2 := blk_frozen BK371.out 2) | ((with_reducible refine gate_callee (f := 30) rfl ?_); refine goesL_ (some 8) rfl rfl Tryd.func30 (by kernel_rfl) rfl #[.agg #[.string a0_0, .int .i64 a0_1, .slice A0_2 l0_2.length c0_2]] rfl (by (try simp only [List.map_toArray, List.map_cons, List.map_nil]); first | done | rfl | (simp only [List.length_drop, List.length_take]; rfl)) ?_; (with_reducible refine (crossbarref28_Check.calls k a0_0 a0_1 _ _ l0_2 t373 _ ?side1 ?side2 A3.out).mono ?_); (case side1 => repeat (first | exact (Kd.C_below HR0_2.out HB.out) | (with_reducible refine Kd.C_alloc ?_ _) | (with_reducible refine Kd.C_drewN ?_ _) | (with_reducible refine Kd.C_drew ?_))); (case side2 => exact HC0_2.out); rintro e w30 ⟨rfl, hb⟩; refine ⟨_, rfl, ?_⟩; have n0_ := kl BK371 hb; have n1_ := kl BK372 hb; have n2_ := ls2 HB GE371 GE372 hb; clear BK371; clear BK372; clear HB; have BK371 := n0_; have BK372 := n1_; have HB := n2_; clear n0_ n1_ n2_; (try clear hb); (try clear hb2); (try clear hk); (try clear hi)) | ((with_reducible refine gate_callee (f := 56) rfl ?_); refine goesL_ (some 14) rfl rfl Tryd.func56 (by kernel_rfl) rfl #[.int .i64 a1] rfl (by (try simp only [List.map_toArray, List.map_cons, List.map_nil]); first | done | rfl | (simp only [List.length_drop, List.length_take]; rfl)) ?_; (with_reducible refine (crossbarref28_within.calls a1 true _ A5.out).mono ?_); rintro e w' ⟨rfl, ⟨nd, rfl⟩⟩; refine ⟨_, rfl, ?_⟩; (try (rw [drewN_self w30]; generalize hq_ : World.drewN w30 _ = w30; have n0_ : Aside0 (w30.heap[gb371]? = some (.cells #[.string a0_0, .int .i64 a0_1, .slice A0_2 l0_2.length c0_2] 31 (0, 0))) := ⟨by rw [← hq_]; exact (kb BK371)⟩; have n1_ : Aside0 (w30.heap[gb372]? = some (.cells #[.string (⟨#[]⟩ : ByteArray), .int .i64 0, .slice none 0 0] 31 (0, 0))) := ⟨by rw [← hq_]; exact (kb BK372)⟩; have n2_ : Aside0 (Below w.heap.size w w30) := ⟨by rw [← hq_]; exact (lb2 HB GE371 GE372)⟩; clear BK371 BK372 HB hq_; have BK371 := n0_; have BK372 := n1_; have HB := n2_; clear n0_ n1_ n2_)); have hcz31_0 := bc BK371 0; have hcz31_1 := bc BK371 1; have hcz31_2 := bc BK371 2; have hfz31_0 := blk_frozen BK371.out 0; have hfz31_1 := blk_frozen BK371.out 1; have hfz31_2 := blk_frozen BK371.out 2) | ((with_reducible refine gate_callee (f := 32) rfl ?_); refine goesL_ (some 18) rfl rfl Tryd.func32 (by kernel_rfl) rfl #[.agg #[.string a0_0, .int .i64 a0_1, .slice A0_2 l0_2.length c0_2]] rfl (by (try simp only [List.map_toArray, List.map_cons, List.map_nil]); first | done | rfl | (simp only [List.length_drop, List.length_take]; rfl)) ?_; (with_reducible refine (crossbarref28_Worth.calls k a0_0 a0_1 _ _ l0_2 t375 _ ?side1 ?side2 A7.out).mono ?_); (case side1 => repeat (first | exact (Kd.C_below HR0_2.out HB.out) | (with_reducible refine Kd.C_alloc ?_ _) | (with_reducible refine Kd.C_drewN ?_ _) | (with_reducible refine Kd.C_drew ?_))); (case side2 => exact HC0_2.out); rintro e w32 ⟨rfl, hb⟩; refine ⟨_, rfl, ?_⟩; have n0_ := kl BK371 hb; have n1_ := kl BK372 hb; have n2_ := ls2 HB GE371 GE372 hb; clear BK371; clear BK372; clear HB; have BK371 := n0_; have BK372 := n1_; have HB := n2_; clear n0_ n1_ n2_; (try clear hb); (try clear hb2); (try clear hk); (try clear hi)) | ((with_reducible refine gate_callee (f := 56) rfl ?_); refine goesL_ (some 21) rfl rfl Tryd.func56 (by kernel_rfl) rfl #[.int .i64 (wrap64 (t375 + a1))] rfl (by (try simp only [List.map_toArray, List.map_cons, List.map_nil]); first | done | rfl | (simp only [List.length_drop, List.length_take]; rfl)) ?_; (with_reducible refine (crossbarref28_within.calls (wrap64 (t375 + a1)) false _ A8.out).mono ?_); rintro e w' ⟨rfl, ⟨nd, rfl⟩⟩; refine ⟨_, rfl, ?_⟩; (try (rw [drewN_self w32]; generalize hq_ : World.drewN w32 _ = w32; have n0_ : Aside0 (w32.heap[gb371]? = some (.cells #[.string a0_0, .int .i64 a0_1, .slice A0_2 l0_2.length c0_2] 31 (0, 0))) := ⟨by rw [← hq_]; exact (kb BK371)⟩; have n1_ : Aside0 (w32.heap[gb372]? = some (.cells #[.string (⟨#[]⟩ : ByteArray), .int .i64 0, .slice none 0 0] 31 (0, 0))) := ⟨by rw [← hq_]; exact (kb BK372)⟩; have n2_ : Aside0 (Below w.heap.size w w32) := ⟨by rw [← hq_]; exact (lb2 HB GE371 GE372)⟩; clear BK371 BK372 HB hq_; have BK371 := n0_; have BK372 := n1_; have HB := n2_; clear n0_ n1_ n2_)); have hcz33_0 := bc BK372 0; have hcz33_1 := bc BK372 1; have hcz33_2 := bc BK372 2; have hfz33_0 := blk_frozen BK372.out 0; have hfz33_1 := blk_frozen BK372.out 1; have hfz33_2 := blk_frozen BK372.out 2))
    refine bodyPost_ret (results_ct rfl _ _ gb372 31 #[.string (⟨#[]⟩ : ByteArray), .int .i64 0, .slice none 0 0] (0, 0) _ rfl (by (with_reducible repeat (first | refine blk_drewN ?_ _ | refine blk_drew ?_ | refine blk_alloc ?_ _)); refine blk_put (cs := #[.string (⟨#[]⟩ : ByteArray), .int .i64 0, .slice none 0 0]) ?_ 2 _ rfl; (with_reducible repeat (first | refine blk_drewN ?_ _ | refine blk_drew ?_ | refine blk_alloc ?_ _)); refine blk_put (cs := #[.string (⟨#[]⟩ : ByteArray), .int .i64 0, .slice none 0 0]) ?_ 1 _ rfl; (with_reducible repeat (first | refine blk_drewN ?_ _ | refine blk_drew ?_ | refine blk_alloc ?_ _)); refine blk_put (cs := #[.string (⟨#[]⟩ : ByteArray), .int .i64 0, .slice none 0 0]) ?_ 0 _ rfl; (with_reducible repeat (first | refine blk_drewN ?_ _ | refine blk_drew ?_ | refine blk_alloc ?_ _)); exact BK372.out) Tryd.underlying31 rfl (by kernel_rfl)) rfl ?_
    exact ⟨_, by first | rfl | (simp [errW_none, errW_some] <;> rfl) | (simp [*, errW_none, errW_some] <;> rfl), by first | exact Kd.R_nil _ _ _ _ _ | exact Kd.N_nil _ _ _ _ _ | exact Kd.V_nil _ _ _ _ _ | exact Kd.Q_nil _ _ _ _ _ | exact Kd.S_nil _ _ _ _ _, lb2 HB GE371 GE372⟩
  ·replace c6 := Bool.eq_false_iff.mpr c6
   subst c6
   have H1 : (some ((⟨#[]⟩ : ByteArray), 0, ([] : List (S54)), 1)) = some (r1, r2, r3, r4) := by rw [if_neg (show ¬ (false = true) by decide)] at H; exact H
   clear H
   have H := H1
   clear H1
   simp only [Option.some.injEq, Prod.mk.injEq] at H
   obtain ⟨rfl, rfl, rfl, rfl⟩ := H
   go_enter Tryd.func28, Tryd.ntmps28
   go_wp2_with (first | ((with_reducible refine gate_dst (N := 2) rfl ?_); refine box_event ?hg (N := 2) ?hd (cs := #[.string a0_0, .int .i64 a0_1, .slice A0_2 l0_2.length c0_2]) (t := 31) ?hr ?_; (case hd => rfl); (case hg => rfl); (case hr => first | (go_simp; done) | (go_simp; rfl)); intro gb371 hg w34 hbox hb; have n0_ := ls0 HB hb; have n1_ := Aside0.mk (hbox); have n2_ := Aside0.mk ((by rw [hg]; exact (below_size (lb0 HB)) : w.heap.size ≤ gb371)); have n3_ := Aside0.mk ((by rw [hg]; exact (below_size (lb0 HB)) : w.heap.size ≤ gb371)); clear HB; have HB := n0_; have BK371 := n1_; have GW371 := n2_; have GE371 := n3_; clear n0_ n1_ n2_ n3_; clear hb hbox hg) | ((with_reducible refine gate_dst (N := 4) rfl ?_); refine box_event ?hg (N := 4) ?hd (cs := #[.string (⟨#[]⟩ : ByteArray), .int .i64 0, .slice none 0 0]) (t := 31) ?hr ?_; (case hd => rfl); (case hg => rfl); (case hr => first | (go_simp; done) | (go_simp; rfl)); intro gb372 hg w35 hbox hb; have n0_ := kl BK371 hb; have n1_ := ls1 HB GE371 hb; have n2_ := Aside0.mk (hbox); have n3_ := Aside0.mk ((by rw [hg]; exact (below_size (lb1 HB GE371)) : w.heap.size ≤ gb372)); have n4_ := Aside0.mk ((by rw [hg]; exact (below_size (lb1 HB GE371)) : w.heap.size ≤ gb372)); have n5_ := kn BK371 hg; have n6_ := km BK371 hg; clear BK371; clear HB; have BK371 := n0_; have HB := n1_; have BK372 := n2_; have GW372 := n3_; have GE372 := n4_; have NB371_372 := n5_; have NB372_371 := n6_; clear n0_ n1_ n2_ n3_ n4_ n5_ n6_; clear hb hbox hg; have hnb36 := NB371_372.out; have hnc36 := NB372_371.out; have hcz37_0 := bc BK371 0; have hcz37_1 := bc BK371 1; have hcz37_2 := bc BK371 2; have hfz37_0 := blk_frozen BK371.out 0; have hfz37_1 := blk_frozen BK371.out 1; have hfz37_2 := blk_frozen BK371.out 2) | ((with_reducible refine gate_callee (f := 30) rfl ?_); refine goesL_ (some 8) rfl rfl Tryd.func30 (by kernel_rfl) rfl #[.agg #[.string a0_0, .int .i64 a0_1, .slice A0_2 l0_2.length c0_2]] rfl (by (try simp only [List.map_toArray, List.map_cons, List.map_nil]); first | done | rfl | (simp only [List.length_drop, List.length_take]; rfl)) ?_; (with_reducible refine (crossbarref28_Check.calls k a0_0 a0_1 _ _ l0_2 t373 _ ?side1 ?side2 A3.out).mono ?_); (case side1 => repeat (first | exact (Kd.C_below HR0_2.out HB.out) | (with_reducible refine Kd.C_alloc ?_ _) | (with_reducible refine Kd.C_drewN ?_ _) | (with_reducible refine Kd.C_drew ?_))); (case side2 => exact HC0_2.out); rintro e w38 ⟨rfl, hb⟩; refine ⟨_, rfl, ?_⟩; have n0_ := kl BK371 hb; have n1_ := kl BK372 hb; have n2_ := ls2 HB GE371 GE372 hb; clear BK371; clear BK372; clear HB; have BK371 := n0_; have BK372 := n1_; have HB := n2_; clear n0_ n1_ n2_; (try clear hb); (try clear hb2); (try clear hk); (try clear hi)) | ((with_reducible refine gate_callee (f := 56) rfl ?_); refine goesL_ (some 14) rfl rfl Tryd.func56 (by kernel_rfl) rfl #[.int .i64 a1] rfl (by (try simp only [List.map_toArray, List.map_cons, List.map_nil]); first | done | rfl | (simp only [List.length_drop, List.length_take]; rfl)) ?_; (with_reducible refine (crossbarref28_within.calls a1 false _ A5.out).mono ?_); rintro e w' ⟨rfl, ⟨nd, rfl⟩⟩; refine ⟨_, rfl, ?_⟩; (try (rw [drewN_self w38]; generalize hq_ : World.drewN w38 _ = w38; have n0_ : Aside0 (w38.heap[gb371]? = some (.cells #[.string a0_0, .int .i64 a0_1, .slice A0_2 l0_2.length c0_2] 31 (0, 0))) := ⟨by rw [← hq_]; exact (kb BK371)⟩; have n1_ : Aside0 (w38.heap[gb372]? = some (.cells #[.string (⟨#[]⟩ : ByteArray), .int .i64 0, .slice none 0 0] 31 (0, 0))) := ⟨by rw [← hq_]; exact (kb BK372)⟩; have n2_ : Aside0 (Below w.heap.size w w38) := ⟨by rw [← hq_]; exact (lb2 HB GE371 GE372)⟩; clear BK371 BK372 HB hq_; have BK371 := n0_; have BK372 := n1_; have HB := n2_; clear n0_ n1_ n2_)); have hcz39_0 := bc BK372 0; have hcz39_1 := bc BK372 1; have hcz39_2 := bc BK372 2; have hfz39_0 := blk_frozen BK372.out 0; have hfz39_1 := blk_frozen BK372.out 1; have hfz39_2 := blk_frozen BK372.out 2))
   refine bodyPost_ret (results_ct rfl _ _ gb372 31 #[.string (⟨#[]⟩ : ByteArray), .int .i64 0, .slice none 0 0] (0, 0) _ rfl (by (with_reducible repeat (first | refine blk_drewN ?_ _ | refine blk_drew ?_ | refine blk_alloc ?_ _)); refine blk_put (cs := #[.string (⟨#[]⟩ : ByteArray), .int .i64 0, .slice none 0 0]) ?_ 2 _ rfl; (with_reducible repeat (first | refine blk_drewN ?_ _ | refine blk_drew ?_ | refine blk_alloc ?_ _)); refine blk_put (cs := #[.string (⟨#[]⟩ : ByteArray), .int .i64 0, .slice none 0 0]) ?_ 1 _ rfl; (with_reducible repeat (first | refine blk_drewN ?_ _ | refine blk_drew ?_ | refine blk_alloc ?_ _)); refine blk_put (cs := #[.string (⟨#[]⟩ : ByteArray), .int .i64 0, .slice none 0 0]) ?_ 0 _ rfl; (with_reducible repeat (first | refine blk_drewN ?_ _ | refine blk_drew ?_ | refine blk_alloc ?_ _)); exact BK372.out) Tryd.underlying31 rfl (by kernel_rfl)) rfl ?_
   exact ⟨_, by first | rfl | (simp [errW_none, errW_some] <;> rfl) | (simp [*, errW_none, errW_some] <;> rfl), by first | exact Kd.R_nil _ _ _ _ _ | exact Kd.N_nil _ _ _ _ _ | exact Kd.V_nil _ _ _ _ _ | exact Kd.Q_nil _ _ _ _ _ | exact Kd.S_nil _ _ _ _ _, lb2 HB GE371 GE372⟩
 ·rw [if_neg c4] at H
  have c4b0 : (t373 == 0) = false := beq_eq_false_iff_ne.mpr c4
  have c4b1 : (t373 != 0) = true := bne_iff_ne.mpr c4
  simp only [Option.some.injEq, Prod.mk.injEq] at H
  obtain ⟨rfl, rfl, rfl, rfl⟩ := H
  go_enter Tryd.func28, Tryd.ntmps28
  go_wp2_with (first | ((with_reducible refine gate_dst (N := 2) rfl ?_); refine box_event ?hg (N := 2) ?hd (cs := #[.string a0_0, .int .i64 a0_1, .slice A0_2 l0_2.length c0_2]) (t := 31) ?hr ?_; (case hd => rfl); (case hg => rfl); (case hr => first | (go_simp; done) | (go_simp; rfl)); intro gb371 hg w40 hbox hb; have n0_ := ls0 HB hb; have n1_ := Aside0.mk (hbox); have n2_ := Aside0.mk ((by rw [hg]; exact (below_size (lb0 HB)) : w.heap.size ≤ gb371)); have n3_ := Aside0.mk ((by rw [hg]; exact (below_size (lb0 HB)) : w.heap.size ≤ gb371)); clear HB; have HB := n0_; have BK371 := n1_; have GW371 := n2_; have GE371 := n3_; clear n0_ n1_ n2_ n3_; clear hb hbox hg) | ((with_reducible refine gate_dst (N := 4) rfl ?_); refine box_event ?hg (N := 4) ?hd (cs := #[.string (⟨#[]⟩ : ByteArray), .int .i64 0, .slice none 0 0]) (t := 31) ?hr ?_; (case hd => rfl); (case hg => rfl); (case hr => first | (go_simp; done) | (go_simp; rfl)); intro gb372 hg w41 hbox hb; have n0_ := kl BK371 hb; have n1_ := ls1 HB GE371 hb; have n2_ := Aside0.mk (hbox); have n3_ := Aside0.mk ((by rw [hg]; exact (below_size (lb1 HB GE371)) : w.heap.size ≤ gb372)); have n4_ := Aside0.mk ((by rw [hg]; exact (below_size (lb1 HB GE371)) : w.heap.size ≤ gb372)); have n5_ := kn BK371 hg; have n6_ := km BK371 hg; clear BK371; clear HB; have BK371 := n0_; have HB := n1_; have BK372 := n2_; have GW372 := n3_; have GE372 := n4_; have NB371_372 := n5_; have NB372_371 := n6_; clear n0_ n1_ n2_ n3_ n4_ n5_ n6_; clear hb hbox hg; have hnb42 := NB371_372.out; have hnc42 := NB372_371.out; have hcz43_0 := bc BK371 0; have hcz43_1 := bc BK371 1; have hcz43_2 := bc BK371 2; have hfz43_0 := blk_frozen BK371.out 0; have hfz43_1 := blk_frozen BK371.out 1; have hfz43_2 := blk_frozen BK371.out 2) | ((with_reducible refine gate_callee (f := 30) rfl ?_); refine goesL_ (some 8) rfl rfl Tryd.func30 (by kernel_rfl) rfl #[.agg #[.string a0_0, .int .i64 a0_1, .slice A0_2 l0_2.length c0_2]] rfl (by (try simp only [List.map_toArray, List.map_cons, List.map_nil]); first | done | rfl | (simp only [List.length_drop, List.length_take]; rfl)) ?_; (with_reducible refine (crossbarref28_Check.calls k a0_0 a0_1 _ _ l0_2 t373 _ ?side1 ?side2 A3.out).mono ?_); (case side1 => repeat (first | exact (Kd.C_below HR0_2.out HB.out) | (with_reducible refine Kd.C_alloc ?_ _) | (with_reducible refine Kd.C_drewN ?_ _) | (with_reducible refine Kd.C_drew ?_))); (case side2 => exact HC0_2.out); rintro e w44 ⟨rfl, hb⟩; refine ⟨_, rfl, ?_⟩; have n0_ := kl BK371 hb; have n1_ := kl BK372 hb; have n2_ := ls2 HB GE371 GE372 hb; clear BK371; clear BK372; clear HB; have BK371 := n0_; have BK372 := n1_; have HB := n2_; clear n0_ n1_ n2_; (try clear hb); (try clear hb2); (try clear hk); (try clear hi); have hcz45_0 := bc BK372 0; have hcz45_1 := bc BK372 1; have hcz45_2 := bc BK372 2; have hfz45_0 := blk_frozen BK372.out 0; have hfz45_1 := blk_frozen BK372.out 1; have hfz45_2 := blk_frozen BK372.out 2))
  refine bodyPost_ret (results_ct rfl _ _ gb372 31 #[.string (⟨#[]⟩ : ByteArray), .int .i64 0, .slice none 0 0] (0, 0) _ rfl (by (with_reducible repeat (first | refine blk_drewN ?_ _ | refine blk_drew ?_ | refine blk_alloc ?_ _)); refine blk_put (cs := #[.string (⟨#[]⟩ : ByteArray), .int .i64 0, .slice none 0 0]) ?_ 2 _ rfl; (with_reducible repeat (first | refine blk_drewN ?_ _ | refine blk_drew ?_ | refine blk_alloc ?_ _)); refine blk_put (cs := #[.string (⟨#[]⟩ : ByteArray), .int .i64 0, .slice none 0 0]) ?_ 1 _ rfl; (with_reducible repeat (first | refine blk_drewN ?_ _ | refine blk_drew ?_ | refine blk_alloc ?_ _)); refine blk_put (cs := #[.string (⟨#[]⟩ : ByteArray), .int .i64 0, .slice none 0 0]) ?_ 0 _ rfl; (with_reducible repeat (first | refine blk_drewN ?_ _ | refine blk_drew ?_ | refine blk_alloc ?_ _)); exact BK372.out) Tryd.underlying31 rfl (by kernel_rfl)) rfl ?_
  exact ⟨_, by first | rfl | (simp [errW_none, errW_some] <;> rfl) | (simp [*, errW_none, errW_some] <;> rfl), by first | exact Kd.R_nil _ _ _ _ _ | exact Kd.N_nil _ _ _ _ _ | exact Kd.V_nil _ _ _ _ _ | exact Kd.Q_nil _ _ _ _ _ | exact Kd.S_nil _ _ _ _ _, lb2 HB GE371 GE372⟩

end Go.Proofs.YtldpacphackdjaaDoor.Print
/- That the call of function 8 (crossbarlaw28_PrepaidMatchesAccounts) answers what the Lean function of the same name answers, at every input at which that one answers. (Written by a program of the session, which drives the kit's printer.) -/
namespace Go.Proofs.YtldpacphackdjaaDoor.Print
open Go.RowKit Go.Proofs.YtldpacphackdjaaDoorW.PrintWords Go.Proofs.YtldpacphackdjaaDoorW.PrintLast Go.Proofs.YtldpacphackdjaaDoorW.PrintMore
attribute [local go_sem] max2_int min2_int max_two min_two max_three min_three max_four min_four   -- for this text's walks alone
set_option linter.unusedVariables false
set_option linter.unusedSimpArgs false

/-! ### crossbarlaw28_PrepaidMatchesAccounts: function 8 -/
def crossbarlaw28_PrepaidMatchesAccounts.f (k : Nat) (a0_0 : ByteArray) (a0_1 : Int) (l0_2 : List (S54)) (a1 : Int) (a2 : Int) : Option (Bool) := (crossbarlaw28_sane.f k).bind fun t384 => (if t384 = true then ((crossbarref28_Few.f a0_0 a0_1 l0_2 ([] : List (S70))).bind fun t385 => (if t385 = true then ((prepaid_Settle.f a0_0 a0_1 l0_2 a1 a2).bind fun bt386 => ((crossbarref28_Settle.f k a0_0 a0_1 l0_2 a1 a2).bind fun bt393 => ((prepaid_Deposit.f a0_0 a0_1 l0_2 a2).bind fun bt400 => ((crossbarref28_Deposit.f k a0_0 a0_1 l0_2 a2).bind fun bt407 => ((crossbarref28_Same.f k bt386.1 bt386.2.1 bt386.2.2.1 bt393.1 bt393.2.1 bt393.2.2.1).bind fun t414 => (if t414 = true then (if bt386.2.2.2 = bt393.2.2.2 then ((crossbarref28_Same.f k bt400.1 bt400.2.1 bt400.2.2.1 bt407.1 bt407.2.1 bt407.2.2.1).bind fun t415 => (if t415 = true then (if bt400.2.2.2 = bt407.2.2.2 then ((prepaid_Check.f k a0_0 a0_1 l0_2).bind fun t416 => ((crossbarref28_Check.f k a0_0 a0_1 l0_2).bind fun t417 => (if t416 = t417 then ((prepaid_Worth.f k a0_0 a0_1 l0_2).bind fun t418 => ((crossbarref28_Worth.f k a0_0 a0_1 l0_2).bind fun t419 => (some (t418 == t419)))) else (some false)))) else (some false)) else (some false))) else (some false)) else (some false))))))) else (some true))) else (some false))
def crossbarlaw28_PrepaidMatchesAccounts.T9 : Bool × List (List Nat × List Nat) := (true, [([], []), ([], []), ([0, 1], [0, 1]), ([2, 2], [2]), ([3], [3]), ([3], [3]), ([4, 5, 3], [3, 4, 5]), ([3, 6], [3, 6]), ([7, 3], [7]), ([8], [8]), ([8], [8]), ([9, 10, 8, 8], [8, 9, 10]), ([8, 11], [8, 11]), ([12, 11], [12]), ([13], [13]), ([13], [13]), ([14, 15, 13], [13, 14, 15]), ([13, 16], [13, 16]), ([17, 13], [17]), ([18], [18]), ([19, 18, 18], [18, 19]), ([18], [18]), ([21, 20, 18], [18, 21]), ([20, 22, 18], [18, 20, 22]), ([18, 23], [18, 23]), ([24, 22], [24]), ([25], [25]), ([26, 25, 25], [25, 26]), ([25], [25]), ([28, 27, 25], [25, 28]), ([27, 29, 25], [25, 27, 29]), ([25, 30], [25, 30]), ([31, 29, 0, 1, 2, 3, 4, 5, 6, 7, 8, 9, 10, 11, 12, 13, 14, 15, 16, 17, 18, 19, 20, 21, 22, 23, 24, 25, 26, 27, 28, 29, 30, 31], [31])])
def crossbarlaw28_PrepaidMatchesAccounts.B9 : List Nat := [0, 0, 3, 7, 15, 15, 63, 127, 255, 511, 511, 2047, 4095, 8191, 16383, 16383, 65535, 131071, 262143, 524287, 1048575, 524287, 4194303, 8388607, 16777215, 33554431, 67108863, 134217727, 67108863, 536870911, 1073741823, 2147483647, 4294967295]
theorem crossbarlaw28_PrepaidMatchesAccounts.tab9 : rtab .any (opsOf Tryd.f8 9) = crossbarlaw28_PrepaidMatchesAccounts.T9 := by kernel_rfl
theorem crossbarlaw28_PrepaidMatchesAccounts.bits9 : waitsOk crossbarlaw28_PrepaidMatchesAccounts.T9.2 crossbarlaw28_PrepaidMatchesAccounts.B9 = true := by kernel_rfl
set_option maxHeartbeats 8000000 in
set_option maxRecDepth 100000 in
theorem crossbarlaw28_PrepaidMatchesAccounts.calls (k : Nat) (a0_0 : ByteArray) (a0_1 : Int) (A0_2 : Option Addr) (c0_2 : Nat) (l0_2 : List (S54)) (a1 : Int) (a2 : Int) (r : Bool) (w : World) (hr0_2 : Kd.C k54 w A0_2 l0_2.length l0_2) (hc0_2 : l0_2.length ≤ c0_2) (h : crossbarlaw28_PrepaidMatchesAccounts.f k a0_0 a0_1 l0_2 a1 a2 = some r) (hT : r = true := by rfl) :
  Calls Tryd.prog 8 #[.agg #[.string a0_0, .int .i64 a0_1, .slice A0_2 l0_2.length c0_2], .int .i64 a1, .int .i64 a2] w fun e w' => e = .returned (.bool r) ∧ Below w.heap.size w w' := by
 have HT_TRUE := Aside0.mk hT
 clear hT
 have hu31 := Tryd.underlying31
 have hu24 := Tryd.underlying24
 have HR0_2 := Aside0.mk hr0_2
 have HC0_2 := Aside0.mk hc0_2
 clear hr0_2 hc0_2
 have HB := Aside0.mk (Below.refl w.heap.size w)
 have H : ((crossbarlaw28_sane.f k).bind fun t384 => (if t384 = true then ((crossbarref28_Few.f a0_0 a0_1 l0_2 ([] : List (S70))).bind fun t385 => (if t385 = true then ((prepaid_Settle.f a0_0 a0_1 l0_2 a1 a2).bind fun bt386 => ((crossbarref28_Settle.f k a0_0 a0_1 l0_2 a1 a2).bind fun bt393 => ((prepaid_Deposit.f a0_0 a0_1 l0_2 a2).bind fun bt400 => ((crossbarref28_Deposit.f k a0_0 a0_1 l0_2 a2).bind fun bt407 => ((crossbarref28_Same.f k bt386.1 bt386.2.1 bt386.2.2.1 bt393.1 bt393.2.1 bt393.2.2.1).bind fun t414 => (if t414 = true then (if bt386.2.2.2 = bt393.2.2.2 then ((crossbarref28_Same.f k bt400.1 bt400.2.1 bt400.2.2.1 bt407.1 bt407.2.1 bt407.2.2.1).bind fun t415 => (if t415 = true then (if bt400.2.2.2 = bt407.2.2.2 then ((prepaid_Check.f k a0_0 a0_1 l0_2).bind fun t416 => ((crossbarref28_Check.f k a0_0 a0_1 l0_2).bind fun t417 => (if t416 = t417 then ((prepaid_Worth.f k a0_0 a0_1 l0_2).bind fun t418 => ((crossbarref28_Worth.f k a0_0 a0_1 l0_2).bind fun t419 => (some (t418 == t419)))) else (some false)))) else (some false)) else (some false))) else (some false)) else (some false))))))) else (some true))) else (some false))) = some r := h
 clear h
 replace H := Option.bind_eq_some_iff.mp H
 obtain ⟨t384, A40, H⟩ := H
 replace H : (if t384 = true then ((crossbarref28_Few.f a0_0 a0_1 l0_2 ([] : List (S70))).bind fun t385 => (if t385 = true then ((prepaid_Settle.f a0_0 a0_1 l0_2 a1 a2).bind fun bt386 => ((crossbarref28_Settle.f k a0_0 a0_1 l0_2 a1 a2).bind fun bt393 => ((prepaid_Deposit.f a0_0 a0_1 l0_2 a2).bind fun bt400 => ((crossbarref28_Deposit.f k a0_0 a0_1 l0_2 a2).bind fun bt407 => ((crossbarref28_Same.f k bt386.1 bt386.2.1 bt386.2.2.1 bt393.1 bt393.2.1 bt393.2.2.1).bind fun t414 => (if t414 = true then (if bt386.2.2.2 = bt393.2.2.2 then ((crossbarref28_Same.f k bt400.1 bt400.2.1 bt400.2.2.1 bt407.1 bt407.2.1 bt407.2.2.1).bind fun t415 => (if t415 = true then (if bt400.2.2.2 = bt407.2.2.2 then ((prepaid_Check.f k a0_0 a0_1 l0_2).bind fun t416 => ((crossbarref28_Check.f k a0_0 a0_1 l0_2).bind fun t417 => (if t416 = t417 then ((prepaid_Worth.f k a0_0 a0_1 l0_2).bind fun t418 => ((crossbarref28_Worth.f k a0_0 a0_1 l0_2).bind fun t419 => (some (t418 == t419)))) else (some false)))) else (some false)) else (some false))) else (some false)) else (some false))))))) else (some true))) else (some false)) = some r := H
 have A4 := Aside0.mk A40
 clear A40
 by_cases c5 : t384 = true
 ·subst c5
  have H1 : ((crossbarref28_Few.f a0_0 a0_1 l0_2 ([] : List (S70))).bind fun t385 => (if t385 = true then ((prepaid_Settle.f a0_0 a0_1 l0_2 a1 a2).bind fun bt386 => ((crossbarref28_Settle.f k a0_0 a0_1 l0_2 a1 a2).bind fun bt393 => ((prepaid_Deposit.f a0_0 a0_1 l0_2 a2).bind fun bt400 => ((crossbarref28_Deposit.f k a0_0 a0_1 l0_2 a2).bind fun bt407 => ((crossbarref28_Same.f k bt386.1 bt386.2.1 bt386.2.2.1 bt393.1 bt393.2.1 bt393.2.2.1).bind fun t414 => (if t414 = true then (if bt386.2.2.2 = bt393.2.2.2 then ((crossbarref28_Same.f k bt400.1 bt400.2.1 bt400.2.2.1 bt407.1 bt407.2.1 bt407.2.2.1).bind fun t415 => (if t415 = true then (if bt400.2.2.2 = bt407.2.2.2 then ((prepaid_Check.f k a0_0 a0_1 l0_2).bind fun t416 => ((crossbarref28_Check.f k a0_0 a0_1 l0_2).bind fun t417 => (if t416 = t417 then ((prepaid_Worth.f k a0_0 a0_1 l0_2).bind fun t418 => ((crossbarref28_Worth.f k a0_0 a0_1 l0_2).bind fun t419 => (some (t418 == t419)))) else (some false)))) else (some false)) else (some false))) else (some false)) else (some false))))))) else (some true))) = some r := by rw [if_pos rfl] at H; exact H
  clear H
  have H := H1
  clear H1
  replace H := Option.bind_eq_some_iff.mp H
  obtain ⟨t385, A60, H⟩ := H
  replace H : (if t385 = true then ((prepaid_Settle.f a0_0 a0_1 l0_2 a1 a2).bind fun bt386 => ((crossbarref28_Settle.f k a0_0 a0_1 l0_2 a1 a2).bind fun bt393 => ((prepaid_Deposit.f a0_0 a0_1 l0_2 a2).bind fun bt400 => ((crossbarref28_Deposit.f k a0_0 a0_1 l0_2 a2).bind fun bt407 => ((crossbarref28_Same.f k bt386.1 bt386.2.1 bt386.2.2.1 bt393.1 bt393.2.1 bt393.2.2.1).bind fun t414 => (if t414 = true then (if bt386.2.2.2 = bt393.2.2.2 then ((crossbarref28_Same.f k bt400.1 bt400.2.1 bt400.2.2.1 bt407.1 bt407.2.1 bt407.2.2.1).bind fun t415 => (if t415 = true then (if bt400.2.2.2 = bt407.2.2.2 then ((prepaid_Check.f k a0_0 a0_1 l0_2).bind fun t416 => ((crossbarref28_Check.f k a0_0 a0_1 l0_2).bind fun t417 => (if t416 = t417 then ((prepaid_Worth.f k a0_0 a0_1 l0_2).bind fun t418 => ((crossbarref28_Worth.f k a0_0 a0_1 l0_2).bind fun t419 => (some (t418 == t419)))) else (some false)))) else (some false)) else (some false))) else (some false)) else (some false))))))) else (some true)) = some r := H
  have A6 := Aside0.mk A60
  clear A60
  by_cases c7 : t385 = true
  ·subst c7
   have H1 : ((prepaid_Settle.f a0_0 a0_1 l0_2 a1 a2).bind fun bt386 => ((crossbarref28_Settle.f k a0_0 a0_1 l0_2 a1 a2).bind fun bt393 => ((prepaid_Deposit.f a0_0 a0_1 l0_2 a2).bind fun bt400 => ((crossbarref28_Deposit.f k a0_0 a0_1 l0_2 a2).bind fun bt407 => ((crossbarref28_Same.f k bt386.1 bt386.2.1 bt386.2.2.1 bt393.1 bt393.2.1 bt393.2.2.1).bind fun t414 => (if t414 = true then (if bt386.2.2.2 = bt393.2.2.2 then ((crossbarref28_Same.f k bt400.1 bt400.2.1 bt400.2.2.1 bt407.1 bt407.2.1 bt407.2.2.1).bind fun t415 => (if t415 = true then (if bt400.2.2.2 = bt407.2.2.2 then ((prepaid_Check.f k a0_0 a0_1 l0_2).bind fun t416 => ((crossbarref28_Check.f k a0_0 a0_1 l0_2).bind fun t417 => (if t416 = t417 then ((prepaid_Worth.f k a0_0 a0_1 l0_2).bind fun t418 => ((crossbarref28_Worth.f k a0_0 a0_1 l0_2).bind fun t419 => (some (t418 == t419)))) else (some false)))) else (some false)) else (some false))) else (some false)) else (some false))))))) = some r := by rw [if_pos rfl] at H; exact H
   clear H
   have H := H1
   clear H1
   replace H := Option.bind_eq_some_iff.mp H
   obtain ⟨⟨t386, t387, t388, t391⟩, A80, H⟩ := H
   replace H : ((crossbarref28_Settle.f k a0_0 a0_1 l0_2 a1 a2).bind fun bt393 => ((prepaid_Deposit.f a0_0 a0_1 l0_2 a2).bind fun bt400 => ((crossbarref28_Deposit.f k a0_0 a0_1 l0_2 a2).bind fun bt407 => ((crossbarref28_Same.f k t386 t387 t388 bt393.1 bt393.2.1 bt393.2.2.1).bind fun t414 => (if t414 = true then (if t391 = bt393.2.2.2 then ((crossbarref28_Same.f k bt400.1 bt400.2.1 bt400.2.2.1 bt407.1 bt407.2.1 bt407.2.2.1).bind fun t415 => (if t415 = true then (if bt400.2.2.2 = bt407.2.2.2 then ((prepaid_Check.f k a0_0 a0_1 l0_2).bind fun t416 => ((crossbarref28_Check.f k a0_0 a0_1 l0_2).bind fun t417 => (if t416 = t417 then ((prepaid_Worth.f k a0_0 a0_1 l0_2).bind fun t418 => ((crossbarref28_Worth.f k a0_0 a0_1 l0_2).bind fun t419 => (some (t418 == t419)))) else (some false)))) else (some false)) else (some false))) else (some false)) else (some false)))))) = some r := H
   have A8 := Aside0.mk A80
   clear A80
   replace H := Option.bind_eq_some_iff.mp H
   obtain ⟨⟨t393, t394, t395, t398⟩, A90, H⟩ := H
   replace H : ((prepaid_Deposit.f a0_0 a0_1 l0_2 a2).bind fun bt400 => ((crossbarref28_Deposit.f k a0_0 a0_1 l0_2 a2).bind fun bt407 => ((crossbarref28_Same.f k t386 t387 t388 t393 t394 t395).bind fun t414 => (if t414 = true then (if t391 = t398 then ((crossbarref28_Same.f k bt400.1 bt400.2.1 bt400.2.2.1 bt407.1 bt407.2.1 bt407.2.2.1).bind fun t415 => (if t415 = true then (if bt400.2.2.2 = bt407.2.2.2 then ((prepaid_Check.f k a0_0 a0_1 l0_2).bind fun t416 => ((crossbarref28_Check.f k a0_0 a0_1 l0_2).bind fun t417 => (if t416 = t417 then ((prepaid_Worth.f k a0_0 a0_1 l0_2).bind fun t418 => ((crossbarref28_Worth.f k a0_0 a0_1 l0_2).bind fun t419 => (some (t418 == t419)))) else (some false)))) else (some false)) else (some false))) else (some false)) else (some false))))) = some r := H
   have A9 := Aside0.mk A90
   clear A90
   replace H := Option.bind_eq_some_iff.mp H
   obtain ⟨⟨t400, t401, t402, t405⟩, A100, H⟩ := H
   replace H : ((crossbarref28_Deposit.f k a0_0 a0_1 l0_2 a2).bind fun bt407 => ((crossbarref28_Same.f k t386 t387 t388 t393 t394 t395).bind fun t414 => (if t414 = true then (if t391 = t398 then ((crossbarref28_Same.f k t400 t401 t402 bt407.1 bt407.2.1 bt407.2.2.1).bind fun t415 => (if t415 = true then (if t405 = bt407.2.2.2 then ((prepaid_Check.f k a0_0 a0_1 l0_2).bind fun t416 => ((crossbarref28_Check.f k a0_0 a0_1 l0_2).bind fun t417 => (if t416 = t417 then ((prepaid_Worth.f k a0_0 a0_1 l0_2).bind fun t418 => ((crossbarref28_Worth.f k a0_0 a0_1 l0_2).bind fun t419 => (some (t418 == t419)))) else (some false)))) else (some false)) else (some false))) else (some false)) else (some false)))) = some r := H
   have A10 := Aside0.mk A100
   clear A100
   replace H := Option.bind_eq_some_iff.mp H
   obtain ⟨⟨t407, t408, t409, t412⟩, A110, H⟩ := H
   replace H : ((crossbarref28_Same.f k t386 t387 t388 t393 t394 t395).bind fun t414 => (if t414 = true then (if t391 = t398 then ((crossbarref28_Same.f k t400 t401 t402 t407 t408 t409).bind fun t415 => (if t415 = true then (if t405 = t412 then ((prepaid_Check.f k a0_0 a0_1 l0_2).bind fun t416 => ((crossbarref28_Check.f k a0_0 a0_1 l0_2).bind fun t417 => (if t416 = t417 then ((prepaid_Worth.f k a0_0 a0_1 l0_2).bind fun t418 => ((crossbarref28_Worth.f k a0_0 a0_1 l0_2).bind fun t419 => (some (t418 == t419)))) else (some false)))) else (some false)) else (some false))) else (some false)) else (some false))) = some r := H
   have A11 := Aside0.mk A110
   clear A110
   replace H := Option.bind_eq_some_iff.mp H
   obtain ⟨t414, A120, H⟩ := H
   replace H : (if t414 = true then (if t391 = t398 then ((crossbarref28_Same.f k t400 t401 t402 t407 t408 t409).bind fun t415 => (if t415 = true then (if t405 = t412 then ((prepaid_Check.f k a0_0 a0_1 l0_2).bind fun t416 => ((crossbarref28_Check.f k a0_0 a0_1 l0_2).bind fun t417 => (if t416 = t417 then ((prepaid_Worth.f k a0_0 a0_1 l0_2).bind fun t418 => ((crossbarref28_Worth.f k a0_0 a0_1 l0_2).bind fun t419 => (some (t418 == t419)))) else (some false)))) else (some false)) else (some false))) else (some false)) else (some false)) = some r := H
   have A12 := Aside0.mk A120
   clear A120
   by_cases c13 : t414 = true
   ·subst c13
    have H1 : (if t391 = t398 then ((crossbarref28_Same.f k t400 t401 t402 t407 t408 t409).bind fun t415 => (if t415 = true then (if t405 = t412 then ((prepaid_Check.f k a0_0 a0_1 l0_2).bind fun t416 => ((crossbarref28_Check.f k a0_0 a0_1 l0_2).bind fun t417 => (if t416 = t417 then ((prepaid_Worth.f k a0_0 a0_1 l0_2).bind fun t418 => ((crossbarref28_Worth.f k a0_0 a0_1 l0_2).bind fun t419 => (some (t418 == t419)))) else (some false)))) else (some false)) else (some false))) else (some false)) = some r := by rw [if_pos rfl] at H; exact H
    clear H
    have H := H1
    clear H1
    by_cases c14 : t391 = t398
    ·rw [if_pos c14] at H
     have c14b0 : (t391 == t398) = true := beq_iff_eq.mpr c14
     have c14b1 : (t391 != t398) = false := bne_eq_false_iff_eq.mpr c14
     clear c14
     replace H := Option.bind_eq_some_iff.mp H
     obtain ⟨t415, A150, H⟩ := H
     replace H : (if t415 = true then (if t405 = t412 then ((prepaid_Check.f k a0_0 a0_1 l0_2).bind fun t416 => ((crossbarref28_Check.f k a0_0 a0_1 l0_2).bind fun t417 => (if t416 = t417 then ((prepaid_Worth.f k a0_0 a0_1 l0_2).bind fun t418 => ((crossbarref28_Worth.f k a0_0 a0_1 l0_2).bind fun t419 => (some (t418 == t419)))) else (some false)))) else (some false)) else (some false)) = some r := H
     have A15 := Aside0.mk A150
     clear A150
     by_cases c16 : t415 = true
     ·subst c16
      have H1 : (if t405 = t412 then ((prepaid_Check.f k a0_0 a0_1 l0_2).bind fun t416 => ((crossbarref28_Check.f k a0_0 a0_1 l0_2).bind fun t417 => (if t416 = t417 then ((prepaid_Worth.f k a0_0 a0_1 l0_2).bind fun t418 => ((crossbarref28_Worth.f k a0_0 a0_1 l0_2).bind fun t419 => (some (t418 == t419)))) else (some false)))) else (some false)) = some r := by rw [if_pos rfl] at H; exact H
      clear H
      have H := H1
      clear H1
      by_cases c17 : t405 = t412
      ·rw [if_pos c17] at H
       have c17b0 : (t405 == t412) = true := beq_iff_eq.mpr c17
       have c17b1 : (t405 != t412) = false := bne_eq_false_iff_eq.mpr c17
       clear c17
       replace H := Option.bind_eq_some_iff.mp H
       obtain ⟨t416, A180, H⟩ := H
       replace H : ((crossbarref28_Check.f k a0_0 a0_1 l0_2).bind fun t417 => (if t416 = t417 then ((prepaid_Worth.f k a0_0 a0_1 l0_2).bind fun t418 => ((crossbarref28_Worth.f k a0_0 a0_1 l0_2).bind fun t419 => (some (t418 == t419)))) else (some false))) = some r := H
       have A18 := Aside0.mk A180
       clear A180
       replace H := Option.bind_eq_some_iff.mp H
       obtain ⟨t417, A190, H⟩ := H
       replace H : (if t416 = t417 then ((prepaid_Worth.f k a0_0 a0_1 l0_2).bind fun t418 => ((crossbarref28_Worth.f k a0_0 a0_1 l0_2).bind fun t419 => (some (t418 == t419)))) else (some false)) = some r := H
       have A19 := Aside0.mk A190
       clear A190
       by_cases c20 : t416 = t417
       ·rw [if_pos c20] at H
        have c20b0 : (t416 == t417) = true := beq_iff_eq.mpr c20
        have c20b1 : (t416 != t417) = false := bne_eq_false_iff_eq.mpr c20
        clear c20
        replace H := Option.bind_eq_some_iff.mp H
        obtain ⟨t418, A210, H⟩ := H
        replace H : ((crossbarref28_Worth.f k a0_0 a0_1 l0_2).bind fun t419 => (some (t418 == t419))) = some r := H
        have A21 := Aside0.mk A210
        clear A210
        replace H := Option.bind_eq_some_iff.mp H
        obtain ⟨t419, A220, H⟩ := H
        replace H : (some (t418 == t419)) = some r := H
        have A22 := Aside0.mk A220
        clear A220
        obtain rfl := Option.some.inj H
        go_enter Tryd.func8, Tryd.ntmps8
        try go_wp2_with (first | ((with_reducible refine gate_dst (N := 3) rfl ?_); refine box_event ?hg (N := 3) ?hd (cs := #[.string a0_0, .int .i64 a0_1, .slice A0_2 l0_2.length c0_2]) (t := 31) ?hr ?_; (case hd => rfl); (case hg => rfl); (case hr => first | (go_simp; done) | (go_simp; rfl)); intro gb383 hg w23 hbox hb; have n0_ := ls0 HB hb; have n1_ := Aside0.mk (hbox); have n2_ := Aside0.mk ((by rw [hg]; exact (below_size (lb0 HB)) : w.heap.size ≤ gb383)); have n3_ := Aside0.mk ((by rw [hg]; exact (below_size (lb0 HB)) : w.heap.size ≤ gb383)); clear HB; have HB := n0_; have BK383 := n1_; have GW383 := n2_; have GE383 := n3_; clear n0_ n1_ n2_ n3_; clear hb hbox hg) | ((with_reducible refine gate_callee (f := 21) rfl ?_); refine goesL_ (some 15) rfl rfl Tryd.func21 (by kernel_rfl) rfl #[] rfl (by (try simp only [List.map_toArray, List.map_cons, List.map_nil]); first | done | rfl | (simp only [List.length_drop, List.length_take]; rfl)) ?_; (with_reducible refine (crossbarlaw28_sane.calls k  true _ A4.out).mono ?_); rintro e w24 ⟨rfl, hb⟩; refine ⟨_, rfl, ?_⟩; have n0_ := kl BK383 hb; have n1_ := ls1 HB GE383 hb; clear BK383; clear HB; have BK383 := n0_; have HB := n1_; clear n0_ n1_; (try clear hb); (try clear hb2); (try clear hk); (try clear hi); have hcz25_0 := bc BK383 0; have hcz25_1 := bc BK383 1; have hcz25_2 := bc BK383 2; have hfz25_0 := blk_frozen BK383.out 0; have hfz25_1 := blk_frozen BK383.out 1; have hfz25_2 := blk_frozen BK383.out 2) | ((with_reducible refine gate_callee (f := 22) rfl ?_); refine goesL_ (some 19) rfl rfl Tryd.func22 (by kernel_rfl) rfl #[.agg #[.string a0_0, .int .i64 a0_1, .slice A0_2 l0_2.length c0_2], .agg #[.slice none 0 0]] rfl (by (try simp only [List.map_toArray, List.map_cons, List.map_nil]); first | done | rfl | (simp only [List.length_drop, List.length_take]; rfl)) ?_; (refine (crossbarref28_Few.calls a0_0 a0_1 _ _ l0_2 _ _ ([] : List (S70)) true _ ?side1 ?side2 ?side3 ?side4 A6.out).mono ?_); (case side1 => repeat (first | exact (Kd.C_below HR0_2.out HB.out) | (with_reducible refine Kd.C_alloc ?_ _) | (with_reducible refine Kd.C_drewN ?_ _) | (with_reducible refine Kd.C_drew ?_))); (case side2 => exact HC0_2.out); (case side3 => exact Kd.C_nil _ _); (case side4 => exact Nat.le_refl _); rintro e w26 ⟨rfl, hb⟩; refine ⟨_, rfl, ?_⟩; have n0_ := kl BK383 hb; have n1_ := ls1 HB GE383 hb; clear BK383; clear HB; have BK383 := n0_; have HB := n1_; clear n0_ n1_; (try clear hb); (try clear hb2); (try clear hk); (try clear hi); have hcz27_0 := bc BK383 0; have hcz27_1 := bc BK383 1; have hcz27_2 := bc BK383 2; have hfz27_0 := blk_frozen BK383.out 0; have hfz27_1 := blk_frozen BK383.out 1; have hfz27_2 := blk_frozen BK383.out 2) | ((with_reducible refine gate_callee (f := 20) rfl ?_); refine goesL_ (some 25) rfl rfl Tryd.func20 (by kernel_rfl) rfl #[.agg #[.string a0_0, .int .i64 a0_1, .slice A0_2 l0_2.length c0_2], .int .i64 a1, .int .i64 a2] rfl (by (try simp only [List.map_toArray, List.map_cons, List.map_nil]); first | done | rfl | (simp only [List.length_drop, List.length_take]; rfl)) ?_; (with_reducible refine (prepaid_Settle.calls a0_0 a0_1 _ _ l0_2 a1 a2 t386 t387 t388 t391 _ ?side1 ?side2 A8.out).mono ?_); (case side1 => repeat (first | exact (Kd.C_below HR0_2.out HB.out) | (with_reducible refine Kd.C_alloc ?_ _) | (with_reducible refine Kd.C_drewN ?_ _) | (with_reducible refine Kd.C_drew ?_))); (case side2 => exact HC0_2.out); rintro e w28 ⟨v389, rfl, ho0, hb⟩; refine ⟨_, rfl, ?_⟩; have n0_ := Aside0.mk (Kd.R_lower ho0 (below_size (lb1 HB GE383))); have n1_ := kl BK383 hb; have n2_ := ls1 HB GE383 hb; clear BK383; clear HB; have HO390 := n0_; have BK383 := n1_; have HB := n2_; clear n0_ n1_ n2_; (try clear hb); (try clear hb2); (try clear hk); (try clear hi); (try clear ho0)) | ((with_reducible refine gate_dst (N := 7) rfl ?_); refine box_event ?hg (N := 7) ?hd (cs := #[.string (⟨#[]⟩ : ByteArray), .int .i64 0, .slice none 0 0]) (t := 31) ?hr ?_; (case hd => rfl); (case hg => rfl); (case hr => first | (go_simp; done) | (go_simp; rfl)); intro gb392 hg w29 hbox hb; have n0_ := Aside0.mk (Kd.R_below (rk HO390) hb); have n1_ := kl BK383 hb; have n2_ := ls1 HB GE383 hb; have n3_ := Aside0.mk (hbox); have n4_ := Aside0.mk ((by rw [hg]; exact (below_size (lb1 HB GE383)) : w.heap.size ≤ gb392)); have n5_ := Aside0.mk ((by rw [hg]; exact (below_size (lb1 HB GE383)) : w.heap.size ≤ gb392)); have n6_ := kn BK383 hg; have n7_ := km BK383 hg; clear HO390; clear BK383; clear HB; have HO390 := n0_; have BK383 := n1_; have HB := n2_; have BK392 := n3_; have GW392 := n4_; have GE392 := n5_; have NB383_392 := n6_; have NB392_383 := n7_; clear n0_ n1_ n2_ n3_ n4_ n5_ n6_ n7_; clear hb hbox hg; have hnb30 := NB392_383.out; have hnc30 := NB383_392.out; have hcz31_0 := bc BK392 0; have hcz31_1 := bc BK392 1; have hcz31_2 := bc BK392 2; have hfz31_0 := blk_frozen BK392.out 0; have hfz31_1 := blk_frozen BK392.out 1; have hfz31_2 := blk_frozen BK392.out 2; obtain ⟨Ao32, co32, eo32⟩ := Kd.R_slice HO390.out; subst eo32; have hcz33_0 := bc BK383 0; have hcz33_1 := bc BK383 1; have hcz33_2 := bc BK383 2; have hfz33_0 := blk_frozen BK383.out 0; have hfz33_1 := blk_frozen BK383.out 1; have hfz33_2 := blk_frozen BK383.out 2) | ((with_reducible refine gate_callee (f := 26) rfl ?_); refine goesL_ (some 32) rfl rfl Tryd.func26 (by kernel_rfl) rfl #[.agg #[.string a0_0, .int .i64 a0_1, .slice A0_2 l0_2.length c0_2], .int .i64 a1, .int .i64 a2] rfl (by (try simp only [List.map_toArray, List.map_cons, List.map_nil]); first | done | rfl | (simp only [List.length_drop, List.length_take]; rfl)) ?_; (with_reducible refine (crossbarref28_Settle.calls k a0_0 a0_1 _ _ l0_2 a1 a2 t393 t394 t395 t398 _ ?side1 ?side2 A9.out).mono ?_); (case side1 => exact Kd.C_below HR0_2.out (lb2 HB GE383 GE392)); (case side2 => exact HC0_2.out); rintro e w34 ⟨v396, rfl, ho0, hb⟩; refine ⟨_, rfl, ?_⟩; have n0_ := Aside0.mk (Kd.R_elder' (by (with_reducible repeat (first | apply Kd.R_alloc | apply Kd.R_drewN | apply Kd.R_drew)); exact (Kd.R_mono (Kd.R_far (p := ⟨gb392, 2, none⟩) (Kd.R_far (p := ⟨gb392, 1, none⟩) (Kd.R_far (p := ⟨gb392, 0, none⟩) (Kd.R_types HO390.out BK392.out (by decide)) (fun _ hk => hk.2) (.string t386)) (fun _ hk => hk.2) (.int .i64 t387)) (fun _ hk => hk.2) (.slice Ao32 t388.length co32)) (fun _ h_ => h_.1))) (Kd.R_base ho0) hb); have n1_ := Aside0.mk (Kd.R_lower (Kd.R_new' ho0 (Kd.R_lt (by (with_reducible repeat (first | apply Kd.R_alloc | apply Kd.R_drewN | apply Kd.R_drew)); exact (Kd.R_mono (Kd.R_far (p := ⟨gb392, 2, none⟩) (Kd.R_far (p := ⟨gb392, 1, none⟩) (Kd.R_far (p := ⟨gb392, 0, none⟩) (Kd.R_types HO390.out BK392.out (by decide)) (fun _ hk => hk.2) (.string t386)) (fun _ hk => hk.2) (.int .i64 t387)) (fun _ hk => hk.2) (.slice Ao32 t388.length co32)) (fun _ h_ => h_.1))))) (below_size (lb2 HB GE383 GE392))); have n2_ := kl1 BK383 NB383_392 hb; have n3_ := Aside0.mk (blk_below (g := gb392) (o := .cells #[.string t386, .int .i64 t387, .slice Ao32 t388.length co32] 31 (0, 0)) (by (with_reducible repeat (first | refine blk_drewN ?_ _ | refine blk_drew ?_ | refine blk_alloc ?_ _)); refine blk_put (cs := #[.string t386, .int .i64 t387, .slice none 0 0]) ?_ 2 _ rfl; (with_reducible repeat (first | refine blk_drewN ?_ _ | refine blk_drew ?_ | refine blk_alloc ?_ _)); refine blk_put (cs := #[.string t386, .int .i64 0, .slice none 0 0]) ?_ 1 _ rfl; (with_reducible repeat (first | refine blk_drewN ?_ _ | refine blk_drew ?_ | refine blk_alloc ?_ _)); refine blk_put (cs := #[.string (⟨#[]⟩ : ByteArray), .int .i64 0, .slice none 0 0]) ?_ 0 _ rfl; (with_reducible repeat (first | refine blk_drewN ?_ _ | refine blk_drew ?_ | refine blk_alloc ?_ _)); exact BK392.out) hb); have n4_ := ls2 HB GE383 GE392 hb; clear HO390; clear BK383; clear BK392; clear HB; have HO390 := n0_; have HO397 := n1_; have BK383 := n2_; have BK392 := n3_; have HB := n4_; clear n0_ n1_ n2_ n3_ n4_; (try clear hb); (try clear hb2); (try clear hk); (try clear hi); (try clear ho0)) | ((with_reducible refine gate_dst (N := 9) rfl ?_); refine box_event ?hg (N := 9) ?hd (cs := #[.string (⟨#[]⟩ : ByteArray), .int .i64 0, .slice none 0 0]) (t := 31) ?hr ?_; (case hd => rfl); (case hg => rfl); (case hr => first | (go_simp; done) | (go_simp; rfl)); intro gb399 hg w35 hbox hb; have n0_ := Aside0.mk (Kd.R_below (rk HO390) hb); have n1_ := Aside0.mk (Kd.R_below (rk HO397) hb); have n2_ := kl BK383 hb; have n3_ := kl BK392 hb; have n4_ := ls2 HB GE383 GE392 hb; have n5_ := Aside0.mk (hbox); have n6_ := Aside0.mk ((by rw [hg]; exact (below_size (lb2 HB GE383 GE392)) : w.heap.size ≤ gb399)); have n7_ := Aside0.mk ((by rw [hg]; exact (below_size (lb2 HB GE383 GE392)) : w.heap.size ≤ gb399)); have n8_ := kn BK383 hg; have n9_ := km BK383 hg; have n10_ := kn BK392 hg; have n11_ := km BK392 hg; clear HO390; clear HO397; clear BK383; clear BK392; clear HB; have HO390 := n0_; have HO397 := n1_; have BK383 := n2_; have BK392 := n3_; have HB := n4_; have BK399 := n5_; have GW399 := n6_; have GE399 := n7_; have NB383_399 := n8_; have NB399_383 := n9_; have NB392_399 := n10_; have NB399_392 := n11_; clear n0_ n1_ n2_ n3_ n4_ n5_ n6_ n7_ n8_ n9_ n10_ n11_; clear hb hbox hg; have hnb36 := NB399_383.out; have hnc36 := NB383_399.out; have hnb37 := NB399_392.out; have hnc37 := NB392_399.out; have hcz38_0 := bc BK399 0; have hcz38_1 := bc BK399 1; have hcz38_2 := bc BK399 2; have hfz38_0 := blk_frozen BK399.out 0; have hfz38_1 := blk_frozen BK399.out 1; have hfz38_2 := blk_frozen BK399.out 2; obtain ⟨Ao39, co39, eo39⟩ := Kd.R_slice HO397.out; subst eo39; have hcz40_0 := bc BK383 0; have hcz40_1 := bc BK383 1; have hcz40_2 := bc BK383 2; have hfz40_0 := blk_frozen BK383.out 0; have hfz40_1 := blk_frozen BK383.out 1; have hfz40_2 := blk_frozen BK383.out 2) | ((with_reducible refine gate_callee (f := 27) rfl ?_); refine goesL_ (some 38) rfl rfl Tryd.func27 (by kernel_rfl) rfl #[.agg #[.string a0_0, .int .i64 a0_1, .slice A0_2 l0_2.length c0_2], .int .i64 a2] rfl (by (try simp only [List.map_toArray, List.map_cons, List.map_nil]); first | done | rfl | (simp only [List.length_drop, List.length_take]; rfl)) ?_; (with_reducible refine (prepaid_Deposit.calls a0_0 a0_1 _ _ l0_2 a2 t400 t401 t402 t405 _ ?side1 ?side2 A10.out).mono ?_); (case side1 => exact Kd.C_below HR0_2.out (lb3 HB GE383 GE392 GE399)); (case side2 => exact HC0_2.out); rintro e w41 ⟨v403, rfl, ho0, hb⟩; refine ⟨_, rfl, ?_⟩; have n0_ := Aside0.mk (Kd.R_elder' (by (with_reducible repeat (first | apply Kd.R_alloc | apply Kd.R_drewN | apply Kd.R_drew)); exact (Kd.R_mono (Kd.R_far (p := ⟨gb399, 2, none⟩) (Kd.R_far (p := ⟨gb399, 1, none⟩) (Kd.R_far (p := ⟨gb399, 0, none⟩) (Kd.R_types HO390.out BK399.out (by decide)) (fun _ hk => hk.2) (.string t393)) (fun _ hk => hk.2) (.int .i64 t394)) (fun _ hk => hk.2) (.slice Ao39 t395.length co39)) (fun _ h_ => h_.1))) (Kd.R_base ho0) hb); have n1_ := Aside0.mk (Kd.R_elder' (by (with_reducible repeat (first | apply Kd.R_alloc | apply Kd.R_drewN | apply Kd.R_drew)); exact (Kd.R_mono (Kd.R_far (p := ⟨gb399, 2, none⟩) (Kd.R_far (p := ⟨gb399, 1, none⟩) (Kd.R_far (p := ⟨gb399, 0, none⟩) (Kd.R_types HO397.out BK399.out (by decide)) (fun _ hk => hk.2) (.string t393)) (fun _ hk => hk.2) (.int .i64 t394)) (fun _ hk => hk.2) (.slice Ao39 t395.length co39)) (fun _ h_ => h_.1))) (Kd.R_base ho0) hb); have n2_ := Aside0.mk (Kd.R_lower (Kd.R_new' (Kd.R_new' ho0 (Kd.R_lt (by (with_reducible repeat (first | apply Kd.R_alloc | apply Kd.R_drewN | apply Kd.R_drew)); exact (Kd.R_mono (Kd.R_far (p := ⟨gb399, 2, none⟩) (Kd.R_far (p := ⟨gb399, 1, none⟩) (Kd.R_far (p := ⟨gb399, 0, none⟩) (Kd.R_types HO390.out BK399.out (by decide)) (fun _ hk => hk.2) (.string t393)) (fun _ hk => hk.2) (.int .i64 t394)) (fun _ hk => hk.2) (.slice Ao39 t395.length co39)) (fun _ h_ => h_.1))))) (Kd.R_lt (by (with_reducible repeat (first | apply Kd.R_alloc | apply Kd.R_drewN | apply Kd.R_drew)); exact (Kd.R_mono (Kd.R_far (p := ⟨gb399, 2, none⟩) (Kd.R_far (p := ⟨gb399, 1, none⟩) (Kd.R_far (p := ⟨gb399, 0, none⟩) (Kd.R_types HO397.out BK399.out (by decide)) (fun _ hk => hk.2) (.string t393)) (fun _ hk => hk.2) (.int .i64 t394)) (fun _ hk => hk.2) (.slice Ao39 t395.length co39)) (fun _ h_ => h_.1))))) (below_size (lb3 HB GE383 GE392 GE399))); have n3_ := kl1 BK383 NB383_399 hb; have n4_ := kl1 BK392 NB392_399 hb; have n5_ := Aside0.mk (blk_below (g := gb399) (o := .cells #[.string t393, .int .i64 t394, .slice Ao39 t395.length co39] 31 (0, 0)) (by (with_reducible repeat (first | refine blk_drewN ?_ _ | refine blk_drew ?_ | refine blk_alloc ?_ _)); refine blk_put (cs := #[.string t393, .int .i64 t394, .slice none 0 0]) ?_ 2 _ rfl; (with_reducible repeat (first | refine blk_drewN ?_ _ | refine blk_drew ?_ | refine blk_alloc ?_ _)); refine blk_put (cs := #[.string t393, .int .i64 0, .slice none 0 0]) ?_ 1 _ rfl; (with_reducible repeat (first | refine blk_drewN ?_ _ | refine blk_drew ?_ | refine blk_alloc ?_ _)); refine blk_put (cs := #[.string (⟨#[]⟩ : ByteArray), .int .i64 0, .slice none 0 0]) ?_ 0 _ rfl; (with_reducible repeat (first | refine blk_drewN ?_ _ | refine blk_drew ?_ | refine blk_alloc ?_ _)); exact BK399.out) hb); have n6_ := ls3 HB GE383 GE392 GE399 hb; clear HO390; clear HO397; clear BK383; clear BK392; clear BK399; clear HB; have HO390 := n0_; have HO397 := n1_; have HO404 := n2_; have BK383 := n3_; have BK392 := n4_; have BK399 := n5_; have HB := n6_; clear n0_ n1_ n2_ n3_ n4_ n5_ n6_; (try clear hb); (try clear hb2); (try clear hk); (try clear hi); (try clear ho0)) | ((with_reducible refine gate_dst (N := 11) rfl ?_); refine box_event ?hg (N := 11) ?hd (cs := #[.string (⟨#[]⟩ : ByteArray), .int .i64 0, .slice none 0 0]) (t := 31) ?hr ?_; (case hd => rfl); (case hg => rfl); (case hr => first | (go_simp; done) | (go_simp; rfl)); intro gb406 hg w42 hbox hb; have n0_ := Aside0.mk (Kd.R_below (rk HO390) hb); have n1_ := Aside0.mk (Kd.R_below (rk HO397) hb); have n2_ := Aside0.mk (Kd.R_below (rk HO404) hb); have n3_ := kl BK383 hb; have n4_ := kl BK392 hb; have n5_ := kl BK399 hb; have n6_ := ls3 HB GE383 GE392 GE399 hb; have n7_ := Aside0.mk (hbox); have n8_ := Aside0.mk ((by rw [hg]; exact (below_size (lb3 HB GE383 GE392 GE399)) : w.heap.size ≤ gb406)); have n9_ := Aside0.mk ((by rw [hg]; exact (below_size (lb3 HB GE383 GE392 GE399)) : w.heap.size ≤ gb406)); have n10_ := kn BK383 hg; have n11_ := km BK383 hg; have n12_ := kn BK392 hg; have n13_ := km BK392 hg; have n14_ := kn BK399 hg; have n15_ := km BK399 hg; clear HO390; clear HO397; clear HO404; clear BK383; clear BK392; clear BK399; clear HB; have HO390 := n0_; have HO397 := n1_; have HO404 := n2_; have BK383 := n3_; have BK392 := n4_; have BK399 := n5_; have HB := n6_; have BK406 := n7_; have GW406 := n8_; have GE406 := n9_; have NB383_406 := n10_; have NB406_383 := n11_; have NB392_406 := n12_; have NB406_392 := n13_; have NB399_406 := n14_; have NB406_399 := n15_; clear n0_ n1_ n2_ n3_ n4_ n5_ n6_ n7_ n8_ n9_ n10_ n11_ n12_ n13_ n14_ n15_; clear hb hbox hg; have hnb43 := NB406_383.out; have hnc43 := NB383_406.out; have hnb44 := NB406_392.out; have hnc44 := NB392_406.out; have hnb45 := NB406_399.out; have hnc45 := NB399_406.out; have hcz46_0 := bc BK406 0; have hcz46_1 := bc BK406 1; have hcz46_2 := bc BK406 2; have hfz46_0 := blk_frozen BK406.out 0; have hfz46_1 := blk_frozen BK406.out 1; have hfz46_2 := blk_frozen BK406.out 2; obtain ⟨Ao47, co47, eo47⟩ := Kd.R_slice HO404.out; subst eo47; have hcz48_0 := bc BK383 0; have hcz48_1 := bc BK383 1; have hcz48_2 := bc BK383 2; have hfz48_0 := blk_frozen BK383.out 0; have hfz48_1 := blk_frozen BK383.out 1; have hfz48_2 := blk_frozen BK383.out 2) | ((with_reducible refine gate_callee (f := 28) rfl ?_); refine goesL_ (some 44) rfl rfl Tryd.func28 (by kernel_rfl) rfl #[.agg #[.string a0_0, .int .i64 a0_1, .slice A0_2 l0_2.length c0_2], .int .i64 a2] rfl (by (try simp only [List.map_toArray, List.map_cons, List.map_nil]); first | done | rfl | (simp only [List.length_drop, List.length_take]; rfl)) ?_; (with_reducible refine (crossbarref28_Deposit.calls k a0_0 a0_1 _ _ l0_2 a2 t407 t408 t409 t412 _ ?side1 ?side2 A11.out).mono ?_); (case side1 => exact Kd.C_below HR0_2.out (lb4 HB GE383 GE392 GE399 GE406)); (case side2 => exact HC0_2.out); rintro e w49 ⟨v410, rfl, ho0, hb⟩; refine ⟨_, rfl, ?_⟩; have n0_ := Aside0.mk (Kd.R_elder' (by (with_reducible repeat (first | apply Kd.R_alloc | apply Kd.R_drewN | apply Kd.R_drew)); exact (Kd.R_mono (Kd.R_far (p := ⟨gb406, 2, none⟩) (Kd.R_far (p := ⟨gb406, 1, none⟩) (Kd.R_far (p := ⟨gb406, 0, none⟩) (Kd.R_types HO390.out BK406.out (by decide)) (fun _ hk => hk.2) (.string t400)) (fun _ hk => hk.2) (.int .i64 t401)) (fun _ hk => hk.2) (.slice Ao47 t402.length co47)) (fun _ h_ => h_.1))) (Kd.R_base ho0) hb); have n1_ := Aside0.mk (Kd.R_elder' (by (with_reducible repeat (first | apply Kd.R_alloc | apply Kd.R_drewN | apply Kd.R_drew)); exact (Kd.R_mono (Kd.R_far (p := ⟨gb406, 2, none⟩) (Kd.R_far (p := ⟨gb406, 1, none⟩) (Kd.R_far (p := ⟨gb406, 0, none⟩) (Kd.R_types HO397.out BK406.out (by decide)) (fun _ hk => hk.2) (.string t400)) (fun _ hk => hk.2) (.int .i64 t401)) (fun _ hk => hk.2) (.slice Ao47 t402.length co47)) (fun _ h_ => h_.1))) (Kd.R_base ho0) hb); have n2_ := Aside0.mk (Kd.R_elder' (by (with_reducible repeat (first | apply Kd.R_alloc | apply Kd.R_drewN | apply Kd.R_drew)); exact (Kd.R_mono (Kd.R_far (p := ⟨gb406, 2, none⟩) (Kd.R_far (p := ⟨gb406, 1, none⟩) (Kd.R_far (p := ⟨gb406, 0, none⟩) (Kd.R_types HO404.out BK406.out (by decide)) (fun _ hk => hk.2) (.string t400)) (fun _ hk => hk.2) (.int .i64 t401)) (fun _ hk => hk.2) (.slice Ao47 t402.length co47)) (fun _ h_ => h_.1))) (Kd.R_base ho0) hb); have n3_ := Aside0.mk (Kd.R_lower (Kd.R_new' (Kd.R_new' (Kd.R_new' ho0 (Kd.R_lt (by (with_reducible repeat (first | apply Kd.R_alloc | apply Kd.R_drewN | apply Kd.R_drew)); exact (Kd.R_mono (Kd.R_far (p := ⟨gb406, 2, none⟩) (Kd.R_far (p := ⟨gb406, 1, none⟩) (Kd.R_far (p := ⟨gb406, 0, none⟩) (Kd.R_types HO390.out BK406.out (by decide)) (fun _ hk => hk.2) (.string t400)) (fun _ hk => hk.2) (.int .i64 t401)) (fun _ hk => hk.2) (.slice Ao47 t402.length co47)) (fun _ h_ => h_.1))))) (Kd.R_lt (by (with_reducible repeat (first | apply Kd.R_alloc | apply Kd.R_drewN | apply Kd.R_drew)); exact (Kd.R_mono (Kd.R_far (p := ⟨gb406, 2, none⟩) (Kd.R_far (p := ⟨gb406, 1, none⟩) (Kd.R_far (p := ⟨gb406, 0, none⟩) (Kd.R_types HO397.out BK406.out (by decide)) (fun _ hk => hk.2) (.string t400)) (fun _ hk => hk.2) (.int .i64 t401)) (fun _ hk => hk.2) (.slice Ao47 t402.length co47)) (fun _ h_ => h_.1))))) (Kd.R_lt (by (with_reducible repeat (first | apply Kd.R_alloc | apply Kd.R_drewN | apply Kd.R_drew)); exact (Kd.R_mono (Kd.R_far (p := ⟨gb406, 2, none⟩) (Kd.R_far (p := ⟨gb406, 1, none⟩) (Kd.R_far (p := ⟨gb406, 0, none⟩) (Kd.R_types HO404.out BK406.out (by decide)) (fun _ hk => hk.2) (.string t400)) (fun _ hk => hk.2) (.int .i64 t401)) (fun _ hk => hk.2) (.slice Ao47 t402.length co47)) (fun _ h_ => h_.1))))) (below_size (lb4 HB GE383 GE392 GE399 GE406))); have n4_ := kl1 BK383 NB383_406 hb; have n5_ := kl1 BK392 NB392_406 hb; have n6_ := kl1 BK399 NB399_406 hb; have n7_ := Aside0.mk (blk_below (g := gb406) (o := .cells #[.string t400, .int .i64 t401, .slice Ao47 t402.length co47] 31 (0, 0)) (by (with_reducible repeat (first | refine blk_drewN ?_ _ | refine blk_drew ?_ | refine blk_alloc ?_ _)); refine blk_put (cs := #[.string t400, .int .i64 t401, .slice none 0 0]) ?_ 2 _ rfl; (with_reducible repeat (first | refine blk_drewN ?_ _ | refine blk_drew ?_ | refine blk_alloc ?_ _)); refine blk_put (cs := #[.string t400, .int .i64 0, .slice none 0 0]) ?_ 1 _ rfl; (with_reducible repeat (first | refine blk_drewN ?_ _ | refine blk_drew ?_ | refine blk_alloc ?_ _)); refine blk_put (cs := #[.string (⟨#[]⟩ : ByteArray), .int .i64 0, .slice none 0 0]) ?_ 0 _ rfl; (with_reducible repeat (first | refine blk_drewN ?_ _ | refine blk_drew ?_ | refine blk_alloc ?_ _)); exact BK406.out) hb); have n8_ := ls4 HB GE383 GE392 GE399 GE406 hb; clear HO390; clear HO397; clear HO404; clear BK383; clear BK392; clear BK399; clear BK406; clear HB; have HO390 := n0_; have HO397 := n1_; have HO404 := n2_; have HO411 := n3_; have BK383 := n4_; have BK392 := n5_; have BK399 := n6_; have BK406 := n7_; have HB := n8_; clear n0_ n1_ n2_ n3_ n4_ n5_ n6_ n7_ n8_; (try clear hb); (try clear hb2); (try clear hk); (try clear hi); (try clear ho0)) | ((with_reducible refine gate_dst (N := 13) rfl ?_); refine box_event ?hg (N := 13) ?hd (cs := #[.string (⟨#[]⟩ : ByteArray), .int .i64 0, .slice none 0 0]) (t := 31) ?hr ?_; (case hd => rfl); (case hg => rfl); (case hr => first | (go_simp; done) | (go_simp; rfl)); intro gb413 hg w50 hbox hb; have n0_ := Aside0.mk (Kd.R_below (rk HO390) hb); have n1_ := Aside0.mk (Kd.R_below (rk HO397) hb); have n2_ := Aside0.mk (Kd.R_below (rk HO404) hb); have n3_ := Aside0.mk (Kd.R_below (rk HO411) hb); have n4_ := kl BK383 hb; have n5_ := kl BK392 hb; have n6_ := kl BK399 hb; have n7_ := kl BK406 hb; have n8_ := ls4 HB GE383 GE392 GE399 GE406 hb; have n9_ := Aside0.mk (hbox); have n10_ := Aside0.mk ((by rw [hg]; exact (below_size (lb4 HB GE383 GE392 GE399 GE406)) : w.heap.size ≤ gb413)); have n11_ := Aside0.mk ((by rw [hg]; exact (below_size (lb4 HB GE383 GE392 GE399 GE406)) : w.heap.size ≤ gb413)); have n12_ := kn BK383 hg; have n13_ := km BK383 hg; have n14_ := kn BK392 hg; have n15_ := km BK392 hg; have n16_ := kn BK399 hg; have n17_ := km BK399 hg; have n18_ := kn BK406 hg; have n19_ := km BK406 hg; clear HO390; clear HO397; clear HO404; clear HO411; clear BK383; clear BK392; clear BK399; clear BK406; clear HB; have HO390 := n0_; have HO397 := n1_; have HO404 := n2_; have HO411 := n3_; have BK383 := n4_; have BK392 := n5_; have BK399 := n6_; have BK406 := n7_; have HB := n8_; have BK413 := n9_; have GW413 := n10_; have GE413 := n11_; have NB383_413 := n12_; have NB413_383 := n13_; have NB392_413 := n14_; have NB413_392 := n15_; have NB399_413 := n16_; have NB413_399 := n17_; have NB406_413 := n18_; have NB413_406 := n19_; clear n0_ n1_ n2_ n3_ n4_ n5_ n6_ n7_ n8_ n9_ n10_ n11_ n12_ n13_ n14_ n15_ n16_ n17_ n18_ n19_; clear hb hbox hg; have hnb51 := NB413_383.out; have hnc51 := NB383_413.out; have hnb52 := NB413_392.out; have hnc52 := NB392_413.out; have hnb53 := NB413_399.out; have hnc53 := NB399_413.out; have hnb54 := NB413_406.out; have hnc54 := NB406_413.out; have hcz55_0 := bc BK413 0; have hcz55_1 := bc BK413 1; have hcz55_2 := bc BK413 2; have hfz55_0 := blk_frozen BK413.out 0; have hfz55_1 := blk_frozen BK413.out 1; have hfz55_2 := blk_frozen BK413.out 2; obtain ⟨Ao56, co56, eo56⟩ := Kd.R_slice HO411.out; subst eo56))
        have n0_ : Aside0 (Kd.R k54 54 (((w50.setCell ⟨gb413, 0, none⟩ (.string t407)).setCell ⟨gb413, 1, none⟩ (.int .i64 t408)).setCell ⟨gb413, 2, none⟩ (.slice Ao56 t409.length co56)) w.heap.size (fun k_ => some k_ ≠ (.slice Ao39 t395.length co39 : Value).ownBlock ∧ some k_ ≠ (.slice Ao47 t402.length co47 : Value).ownBlock ∧ some k_ ≠ (.slice Ao56 t409.length co56 : Value).ownBlock) (.slice Ao32 t388.length co32) t388) := ⟨by (with_reducible repeat (first | apply Kd.R_alloc | apply Kd.R_drewN | apply Kd.R_drew)); exact Kd.R_mono (Kd.R_far (p := ⟨gb413, 2, none⟩) (Kd.R_far (p := ⟨gb413, 1, none⟩) (Kd.R_far (p := ⟨gb413, 0, none⟩) (Kd.R_types HO390.out BK413.out (by decide)) (fun _ hk => hk.2) (.string t407)) (fun _ hk => hk.2) (.int .i64 t408)) (fun _ hk => hk.2) (.slice Ao56 t409.length co56)) (fun _ hk => ⟨hk.1.1.1.2, ⟨hk.1.1.2, hk.1.2⟩⟩)⟩
        have n1_ : Aside0 (Kd.R k54 54 (((w50.setCell ⟨gb413, 0, none⟩ (.string t407)).setCell ⟨gb413, 1, none⟩ (.int .i64 t408)).setCell ⟨gb413, 2, none⟩ (.slice Ao56 t409.length co56)) w.heap.size (fun k_ => some k_ ≠ (.slice Ao32 t388.length co32 : Value).ownBlock ∧ some k_ ≠ (.slice Ao47 t402.length co47 : Value).ownBlock ∧ some k_ ≠ (.slice Ao56 t409.length co56 : Value).ownBlock) (.slice Ao39 t395.length co39) t395) := ⟨by (with_reducible repeat (first | apply Kd.R_alloc | apply Kd.R_drewN | apply Kd.R_drew)); exact Kd.R_mono (Kd.R_far (p := ⟨gb413, 2, none⟩) (Kd.R_far (p := ⟨gb413, 1, none⟩) (Kd.R_far (p := ⟨gb413, 0, none⟩) (Kd.R_types HO397.out BK413.out (by decide)) (fun _ hk => hk.2) (.string t407)) (fun _ hk => hk.2) (.int .i64 t408)) (fun _ hk => hk.2) (.slice Ao56 t409.length co56)) (fun _ hk => ⟨hk.1.1.1.2, ⟨hk.1.1.2, hk.1.2⟩⟩)⟩
        have n2_ : Aside0 (Kd.R k54 54 (((w50.setCell ⟨gb413, 0, none⟩ (.string t407)).setCell ⟨gb413, 1, none⟩ (.int .i64 t408)).setCell ⟨gb413, 2, none⟩ (.slice Ao56 t409.length co56)) w.heap.size (fun k_ => some k_ ≠ (.slice Ao32 t388.length co32 : Value).ownBlock ∧ some k_ ≠ (.slice Ao39 t395.length co39 : Value).ownBlock ∧ some k_ ≠ (.slice Ao56 t409.length co56 : Value).ownBlock) (.slice Ao47 t402.length co47) t402) := ⟨by (with_reducible repeat (first | apply Kd.R_alloc | apply Kd.R_drewN | apply Kd.R_drew)); exact Kd.R_mono (Kd.R_far (p := ⟨gb413, 2, none⟩) (Kd.R_far (p := ⟨gb413, 1, none⟩) (Kd.R_far (p := ⟨gb413, 0, none⟩) (Kd.R_types HO404.out BK413.out (by decide)) (fun _ hk => hk.2) (.string t407)) (fun _ hk => hk.2) (.int .i64 t408)) (fun _ hk => hk.2) (.slice Ao56 t409.length co56)) (fun _ hk => ⟨hk.1.1.1.2, ⟨hk.1.1.2, hk.1.2⟩⟩)⟩
        have n3_ : Aside0 (Kd.R k54 54 (((w50.setCell ⟨gb413, 0, none⟩ (.string t407)).setCell ⟨gb413, 1, none⟩ (.int .i64 t408)).setCell ⟨gb413, 2, none⟩ (.slice Ao56 t409.length co56)) w.heap.size (fun k_ => some k_ ≠ (.slice Ao32 t388.length co32 : Value).ownBlock ∧ some k_ ≠ (.slice Ao39 t395.length co39 : Value).ownBlock ∧ some k_ ≠ (.slice Ao47 t402.length co47 : Value).ownBlock) (.slice Ao56 t409.length co56) t409) := ⟨by (with_reducible repeat (first | apply Kd.R_alloc | apply Kd.R_drewN | apply Kd.R_drew)); exact Kd.R_mono (Kd.R_far (p := ⟨gb413, 2, none⟩) (Kd.R_far (p := ⟨gb413, 1, none⟩) (Kd.R_far (p := ⟨gb413, 0, none⟩) (Kd.R_types HO411.out BK413.out (by decide)) (fun _ hk => hk.2) (.string t407)) (fun _ hk => hk.2) (.int .i64 t408)) (fun _ hk => hk.2) (.slice Ao56 t409.length co56)) (fun _ hk => ⟨hk.1.1.1.2, ⟨hk.1.1.2, hk.1.2⟩⟩)⟩
        have n4_ : Aside0 ((((w50.setCell ⟨gb413, 0, none⟩ (.string t407)).setCell ⟨gb413, 1, none⟩ (.int .i64 t408)).setCell ⟨gb413, 2, none⟩ (.slice Ao56 t409.length co56)).heap[gb383]? = some (.cells #[.string a0_0, .int .i64 a0_1, .slice A0_2 l0_2.length c0_2] 31 (0, 0))) := ⟨kf1 BK383 NB383_413⟩
        have n5_ : Aside0 ((((w50.setCell ⟨gb413, 0, none⟩ (.string t407)).setCell ⟨gb413, 1, none⟩ (.int .i64 t408)).setCell ⟨gb413, 2, none⟩ (.slice Ao56 t409.length co56)).heap[gb392]? = some (.cells #[.string t386, .int .i64 t387, .slice Ao32 t388.length co32] 31 (0, 0))) := ⟨kf1 BK392 NB392_413⟩
        have n6_ : Aside0 ((((w50.setCell ⟨gb413, 0, none⟩ (.string t407)).setCell ⟨gb413, 1, none⟩ (.int .i64 t408)).setCell ⟨gb413, 2, none⟩ (.slice Ao56 t409.length co56)).heap[gb399]? = some (.cells #[.string t393, .int .i64 t394, .slice Ao39 t395.length co39] 31 (0, 0))) := ⟨kf1 BK399 NB399_413⟩
        have n7_ : Aside0 ((((w50.setCell ⟨gb413, 0, none⟩ (.string t407)).setCell ⟨gb413, 1, none⟩ (.int .i64 t408)).setCell ⟨gb413, 2, none⟩ (.slice Ao56 t409.length co56)).heap[gb406]? = some (.cells #[.string t400, .int .i64 t401, .slice Ao47 t402.length co47] 31 (0, 0))) := ⟨kf1 BK406 NB406_413⟩
        have n8_ : Aside0 ((((w50.setCell ⟨gb413, 0, none⟩ (.string t407)).setCell ⟨gb413, 1, none⟩ (.int .i64 t408)).setCell ⟨gb413, 2, none⟩ (.slice Ao56 t409.length co56)).heap[gb413]? = some (.cells #[.string t407, .int .i64 t408, .slice Ao56 t409.length co56] 31 (0, 0))) := ⟨by (with_reducible repeat (first | refine blk_drewN ?_ _ | refine blk_drew ?_ | refine blk_alloc ?_ _)); refine blk_put (cs := #[.string t407, .int .i64 t408, .slice none 0 0]) ?_ 2 _ rfl; (with_reducible repeat (first | refine blk_drewN ?_ _ | refine blk_drew ?_ | refine blk_alloc ?_ _)); refine blk_put (cs := #[.string t407, .int .i64 0, .slice none 0 0]) ?_ 1 _ rfl; (with_reducible repeat (first | refine blk_drewN ?_ _ | refine blk_drew ?_ | refine blk_alloc ?_ _)); refine blk_put (cs := #[.string (⟨#[]⟩ : ByteArray), .int .i64 0, .slice none 0 0]) ?_ 0 _ rfl; (with_reducible repeat (first | refine blk_drewN ?_ _ | refine blk_drew ?_ | refine blk_alloc ?_ _)); exact BK413.out⟩
        have n9_ : Aside0 (Below w.heap.size w (((w50.setCell ⟨gb413, 0, none⟩ (.string t407)).setCell ⟨gb413, 1, none⟩ (.int .i64 t408)).setCell ⟨gb413, 2, none⟩ (.slice Ao56 t409.length co56))) := ⟨lb5 HB GE383 GE392 GE399 GE406 GE413⟩
        (try clear HO390)
        (try clear HO397)
        (try clear HO404)
        (try clear HO411)
        (try clear BK383)
        (try clear BK392)
        (try clear BK399)
        (try clear BK406)
        (try clear BK413)
        (try clear HB)
        generalize (((w50.setCell ⟨gb413, 0, none⟩ (.string t407)).setCell ⟨gb413, 1, none⟩ (.int .i64 t408)).setCell ⟨gb413, 2, none⟩ (.slice Ao56 t409.length co56)) = w57 at n0_ n1_ n2_ n3_ n4_ n5_ n6_ n7_ n8_ n9_ ⊢
        have HO390 := n0_
        have HO397 := n1_
        have HO404 := n2_
        have HO411 := n3_
        have BK383 := n4_
        have BK392 := n5_
        have BK399 := n6_
        have BK406 := n7_
        have BK413 := n8_
        have HB := n9_
        clear n0_ n1_ n2_ n3_ n4_ n5_ n6_ n7_ n8_ n9_
        have n0_ := Aside0.mk (Kd.R_drew HO390.out)
        have n1_ := Aside0.mk (Kd.R_drew HO397.out)
        have n2_ := Aside0.mk (Kd.R_drew HO404.out)
        have n3_ := Aside0.mk (Kd.R_drew HO411.out)
        have n4_ := Aside0.mk (blk_drew BK383.out)
        have n5_ := Aside0.mk (blk_drew BK392.out)
        have n6_ := Aside0.mk (blk_drew BK399.out)
        have n7_ := Aside0.mk (blk_drew BK406.out)
        have n8_ := Aside0.mk (blk_drew BK413.out)
        have n9_ := Aside0.mk (below_drew1 HB.out)
        clear HO390
        clear HO397
        clear HO404
        clear HO411
        clear BK383
        clear BK392
        clear BK399
        clear BK406
        clear BK413
        clear HB
        have HO390 := n0_
        have HO397 := n1_
        have HO404 := n2_
        have HO411 := n3_
        have BK383 := n4_
        have BK392 := n5_
        have BK399 := n6_
        have BK406 := n7_
        have BK413 := n8_
        have HB := n9_
        clear n0_ n1_ n2_ n3_ n4_ n5_ n6_ n7_ n8_ n9_
        refine start_ (n := 33) (S := fun w' => w'.cell? ⟨gb392, 0, none⟩ = some (.string t386) ∧ w'.cell? ⟨gb392, 1, none⟩ = some (.int .i64 t387) ∧ w'.cell? ⟨gb392, 2, none⟩ = some (.slice Ao32 t388.length co32) ∧ w'.cell? ⟨gb399, 0, none⟩ = some (.string t393) ∧ w'.cell? ⟨gb399, 1, none⟩ = some (.int .i64 t394) ∧ w'.cell? ⟨gb399, 2, none⟩ = some (.slice Ao39 t395.length co39) ∧ w'.cell? ⟨gb406, 0, none⟩ = some (.string t400) ∧ w'.cell? ⟨gb406, 1, none⟩ = some (.int .i64 t401) ∧ w'.cell? ⟨gb406, 2, none⟩ = some (.slice Ao47 t402.length co47) ∧ w'.cell? ⟨gb413, 0, none⟩ = some (.string t407) ∧ w'.cell? ⟨gb413, 1, none⟩ = some (.int .i64 t408) ∧ w'.cell? ⟨gb413, 2, none⟩ = some (.slice Ao56 t409.length co56) ∧ w'.cell? ⟨gb383, 0, none⟩ = some (.string a0_0) ∧ w'.cell? ⟨gb383, 1, none⟩ = some (.int .i64 a0_1) ∧ w'.cell? ⟨gb383, 2, none⟩ = some (.slice A0_2 l0_2.length c0_2)) (ds := []) #[false, false, false, false, false, false, false, false, false, false, false, false, false, false, false, false, false, false, false, false, false, false, false, false, false, false, false, false, false, false, false, false, false] (by kernel_rfl) rfl rfl ⟨(blk_cell BK392.out 0).trans rfl, (blk_cell BK392.out 1).trans rfl, (blk_cell BK392.out 2).trans rfl, (blk_cell BK399.out 0).trans rfl, (blk_cell BK399.out 1).trans rfl, (blk_cell BK399.out 2).trans rfl, (blk_cell BK406.out 0).trans rfl, (blk_cell BK406.out 1).trans rfl, (blk_cell BK406.out 2).trans rfl, (blk_cell BK413.out 0).trans rfl, (blk_cell BK413.out 1).trans rfl, (blk_cell BK413.out 2).trans rfl, (blk_cell BK383.out 0).trans rfl, (blk_cell BK383.out 1).trans rfl, (blk_cell BK383.out 2).trans rfl⟩ (fun hHeld => ?_); refine with_tabW crossbarlaw28_PrepaidMatchesAccounts.tab9 crossbarlaw28_PrepaidMatchesAccounts.bits9 (fun HT_ HW_ => ?_)
        generalize w57.drew = w58 at HO390 HO397 HO404 HO411 BK383 BK392 BK399 BK406 BK413 HB hHeld ⊢
        refine t_ 0 47 HT_ HW_ rfl rfl hHeld (by rintro w' ⟨s0, s1, s2, s3, s4, s5, s6, s7, s8, s9, s10, s11, s12, s13, s14⟩; go_simp; with_reducible rfl) ?_
        refine t_ 1 48 HT_ HW_ rfl rfl hHeld (by rintro w' ⟨s0, s1, s2, s3, s4, s5, s6, s7, s8, s9, s10, s11, s12, s13, s14⟩; go_simp; with_reducible rfl) ?_
        refine o_ 2 49 HT_ (fun K hK => ?_)
        refine goes_ Tryd.func24 (by kernel_rfl) rfl #[.agg #[.string t386, .int .i64 t387, .slice Ao32 t388.length co32], .agg #[.string t393, .int .i64 t394, .slice Ao39 t395.length co39]] (by rfl) rfl rfl (by (try simp only [List.map_toArray, List.map_cons, List.map_nil]); first | done | rfl | (simp only [List.length_drop, List.length_take]; rfl)) ?_
        with_reducible refine (crossbarref28_Same.calls k t386 t387 _ _ t388 t393 t394 _ _ t395 true _ ?side1 ?side2 ?side3 ?side4 A12.out).mono ?_
        (case side1 => repeat (first | exact (Kd.R_reads' HO390.out).2.2 | (with_reducible refine Kd.C_alloc ?_ _) | (with_reducible refine Kd.C_drewN ?_ _) | (with_reducible refine Kd.C_drew ?_)))
        (case side2 => exact (Kd.R_reads' HO390.out).2.1)
        (case side3 => repeat (first | exact (Kd.R_reads' HO397.out).2.2 | (with_reducible refine Kd.C_alloc ?_ _) | (with_reducible refine Kd.C_drewN ?_ _) | (with_reducible refine Kd.C_drew ?_)))
        (case side4 => exact (Kd.R_reads' HO397.out).2.1)
        rintro e w59 ⟨rfl, hb⟩
        refine ⟨_, rfl, ?_⟩
        have n0_ := Aside0.mk (Kd.R_below (rk HO390) hb)
        have n1_ := Aside0.mk (Kd.R_below (rk HO397) hb)
        have n2_ := Aside0.mk (Kd.R_below (rk HO404) hb)
        have n3_ := Aside0.mk (Kd.R_below (rk HO411) hb)
        have n4_ := kl BK383 hb
        have n5_ := kl BK392 hb
        have n6_ := kl BK399 hb
        have n7_ := kl BK406 hb
        have n8_ := kl BK413 hb
        have n9_ := ls5 HB GE383 GE392 GE399 GE406 GE413 hb
        clear HO390
        clear HO397
        clear HO404
        clear HO411
        clear BK383
        clear BK392
        clear BK399
        clear BK406
        clear BK413
        clear HB
        have HO390 := n0_
        have HO397 := n1_
        have HO404 := n2_
        have HO411 := n3_
        have BK383 := n4_
        have BK392 := n5_
        have BK399 := n6_
        have BK406 := n7_
        have BK413 := n8_
        have HB := n9_
        clear n0_ n1_ n2_ n3_ n4_ n5_ n6_ n7_ n8_ n9_
        (try clear hb)
        (try clear hb2)
        (try clear hk)
        (try clear hi)
        refine hK.out _ _ ⟨(blk_cell BK392.out 0).trans rfl, (blk_cell BK392.out 1).trans rfl, (blk_cell BK392.out 2).trans rfl, (blk_cell BK399.out 0).trans rfl, (blk_cell BK399.out 1).trans rfl, (blk_cell BK399.out 2).trans rfl, (blk_cell BK406.out 0).trans rfl, (blk_cell BK406.out 1).trans rfl, (blk_cell BK406.out 2).trans rfl, (blk_cell BK413.out 0).trans rfl, (blk_cell BK413.out 1).trans rfl, (blk_cell BK413.out 2).trans rfl, (blk_cell BK383.out 0).trans rfl, (blk_cell BK383.out 1).trans rfl, (blk_cell BK383.out 2).trans rfl⟩ (fun hHeld => ?_)
        clear hK K
        refine n_ 49 ?_
        refine p_ 3 50 HT_ ?_
        refine p_ 4 51 HT_ ?_
        refine p_ 5 52 HT_ ?_
        refine p_ 6 53 HT_ ?_
        refine p_ 7 54 HT_ ?_
        refine p_ 8 55 HT_ ?_
        refine t_ 9 56 HT_ HW_ rfl rfl hHeld (by rintro w' ⟨s0, s1, s2, s3, s4, s5, s6, s7, s8, s9, s10, s11, s12, s13, s14⟩; go_simp; with_reducible rfl) ?_
        refine t_ 10 57 HT_ HW_ rfl rfl hHeld (by rintro w' ⟨s0, s1, s2, s3, s4, s5, s6, s7, s8, s9, s10, s11, s12, s13, s14⟩; go_simp; with_reducible rfl) ?_
        refine o_ 11 58 HT_ (fun K hK => ?_)
        refine goes_ Tryd.func24 (by kernel_rfl) rfl #[.agg #[.string t400, .int .i64 t401, .slice Ao47 t402.length co47], .agg #[.string t407, .int .i64 t408, .slice Ao56 t409.length co56]] (by rfl) rfl rfl (by (try simp only [List.map_toArray, List.map_cons, List.map_nil]); first | done | rfl | (simp only [List.length_drop, List.length_take]; rfl)) ?_
        with_reducible refine (crossbarref28_Same.calls k t400 t401 _ _ t402 t407 t408 _ _ t409 true _ ?side1 ?side2 ?side3 ?side4 A15.out).mono ?_
        (case side1 => repeat (first | exact (Kd.R_reads' HO404.out).2.2 | (with_reducible refine Kd.C_alloc ?_ _) | (with_reducible refine Kd.C_drewN ?_ _) | (with_reducible refine Kd.C_drew ?_)))
        (case side2 => exact (Kd.R_reads' HO404.out).2.1)
        (case side3 => repeat (first | exact (Kd.R_reads' HO411.out).2.2 | (with_reducible refine Kd.C_alloc ?_ _) | (with_reducible refine Kd.C_drewN ?_ _) | (with_reducible refine Kd.C_drew ?_)))
        (case side4 => exact (Kd.R_reads' HO411.out).2.1)
        rintro e w60 ⟨rfl, hb⟩
        refine ⟨_, rfl, ?_⟩
        have n0_ := Aside0.mk (Kd.R_below (rk HO390) hb)
        have n1_ := Aside0.mk (Kd.R_below (rk HO397) hb)
        have n2_ := Aside0.mk (Kd.R_below (rk HO404) hb)
        have n3_ := Aside0.mk (Kd.R_below (rk HO411) hb)
        have n4_ := kl BK383 hb
        have n5_ := kl BK392 hb
        have n6_ := kl BK399 hb
        have n7_ := kl BK406 hb
        have n8_ := kl BK413 hb
        have n9_ := ls5 HB GE383 GE392 GE399 GE406 GE413 hb
        clear HO390
        clear HO397
        clear HO404
        clear HO411
        clear BK383
        clear BK392
        clear BK399
        clear BK406
        clear BK413
        clear HB
        have HO390 := n0_
        have HO397 := n1_
        have HO404 := n2_
        have HO411 := n3_
        have BK383 := n4_
        have BK392 := n5_
        have BK399 := n6_
        have BK406 := n7_
        have BK413 := n8_
        have HB := n9_
        clear n0_ n1_ n2_ n3_ n4_ n5_ n6_ n7_ n8_ n9_
        (try clear hb)
        (try clear hb2)
        (try clear hk)
        (try clear hi)
        refine hK.out _ _ ⟨(blk_cell BK392.out 0).trans rfl, (blk_cell BK392.out 1).trans rfl, (blk_cell BK392.out 2).trans rfl, (blk_cell BK399.out 0).trans rfl, (blk_cell BK399.out 1).trans rfl, (blk_cell BK399.out 2).trans rfl, (blk_cell BK406.out 0).trans rfl, (blk_cell BK406.out 1).trans rfl, (blk_cell BK406.out 2).trans rfl, (blk_cell BK413.out 0).trans rfl, (blk_cell BK413.out 1).trans rfl, (blk_cell BK413.out 2).trans rfl, (blk_cell BK383.out 0).trans rfl, (blk_cell BK383.out 1).trans rfl, (blk_cell BK383.out 2).trans rfl⟩ (fun hHeld => ?_)
        clear hK K
        refine n_ 58 ?_
        refine p_ 12 59 HT_ ?_
        refine p_ 13 60 HT_ ?_
        refine p_ 14 61 HT_ ?_
        refine p_ 15 62 HT_ ?_
        refine p_ 16 63 HT_ ?_
        refine p_ 17 64 HT_ ?_
        refine p_ 18 65 HT_ ?_
        refine t_ 19 66 HT_ HW_ rfl rfl hHeld (by rintro w' ⟨s0, s1, s2, s3, s4, s5, s6, s7, s8, s9, s10, s11, s12, s13, s14⟩; go_simp; with_reducible rfl) ?_
        refine t_ 21 68 HT_ HW_ rfl rfl hHeld (by rintro w' ⟨s0, s1, s2, s3, s4, s5, s6, s7, s8, s9, s10, s11, s12, s13, s14⟩; go_simp; with_reducible rfl) ?_
        refine o_ 20 67 HT_ (fun K hK => ?_)
        refine goes_ Tryd.func29 (by kernel_rfl) rfl #[.agg #[.string a0_0, .int .i64 a0_1, .slice A0_2 l0_2.length c0_2]] (by rfl) rfl rfl (by (try simp only [List.map_toArray, List.map_cons, List.map_nil]); first | done | rfl | (simp only [List.length_drop, List.length_take]; rfl)) ?_
        with_reducible refine (prepaid_Check.calls k a0_0 a0_1 _ _ l0_2 t416 _ ?side1 ?side2 A18.out).mono ?_
        (case side1 => repeat (first | exact (Kd.C_below HR0_2.out HB.out) | (with_reducible refine Kd.C_alloc ?_ _) | (with_reducible refine Kd.C_drewN ?_ _) | (with_reducible refine Kd.C_drew ?_)))
        (case side2 => exact HC0_2.out)
        rintro e w61 ⟨rfl, hb⟩
        refine ⟨_, rfl, ?_⟩
        have n0_ := Aside0.mk (Kd.R_below (rk HO390) hb)
        have n1_ := Aside0.mk (Kd.R_below (rk HO397) hb)
        have n2_ := Aside0.mk (Kd.R_below (rk HO404) hb)
        have n3_ := Aside0.mk (Kd.R_below (rk HO411) hb)
        have n4_ := kl BK383 hb
        have n5_ := kl BK392 hb
        have n6_ := kl BK399 hb
        have n7_ := kl BK406 hb
        have n8_ := kl BK413 hb
        have n9_ := ls5 HB GE383 GE392 GE399 GE406 GE413 hb
        clear HO390
        clear HO397
        clear HO404
        clear HO411
        clear BK383
        clear BK392
        clear BK399
        clear BK406
        clear BK413
        clear HB
        have HO390 := n0_
        have HO397 := n1_
        have HO404 := n2_
        have HO411 := n3_
        have BK383 := n4_
        have BK392 := n5_
        have BK399 := n6_
        have BK406 := n7_
        have BK413 := n8_
        have HB := n9_
        clear n0_ n1_ n2_ n3_ n4_ n5_ n6_ n7_ n8_ n9_
        (try clear hb)
        (try clear hb2)
        (try clear hk)
        (try clear hi)
        refine hK.out _ _ ⟨(blk_cell BK392.out 0).trans rfl, (blk_cell BK392.out 1).trans rfl, (blk_cell BK392.out 2).trans rfl, (blk_cell BK399.out 0).trans rfl, (blk_cell BK399.out 1).trans rfl, (blk_cell BK399.out 2).trans rfl, (blk_cell BK406.out 0).trans rfl, (blk_cell BK406.out 1).trans rfl, (blk_cell BK406.out 2).trans rfl, (blk_cell BK413.out 0).trans rfl, (blk_cell BK413.out 1).trans rfl, (blk_cell BK413.out 2).trans rfl, (blk_cell BK383.out 0).trans rfl, (blk_cell BK383.out 1).trans rfl, (blk_cell BK383.out 2).trans rfl⟩ (fun hHeld => ?_)
        clear hK K
        refine n_ 67 ?_
        refine o_ 22 69 HT_ (fun K hK => ?_)
        refine goes_ Tryd.func30 (by kernel_rfl) rfl #[.agg #[.string a0_0, .int .i64 a0_1, .slice A0_2 l0_2.length c0_2]] (by rfl) rfl rfl (by (try simp only [List.map_toArray, List.map_cons, List.map_nil]); first | done | rfl | (simp only [List.length_drop, List.length_take]; rfl)) ?_
        with_reducible refine (crossbarref28_Check.calls k a0_0 a0_1 _ _ l0_2 t417 _ ?side1 ?side2 A19.out).mono ?_
        (case side1 => repeat (first | exact (Kd.C_below HR0_2.out HB.out) | (with_reducible refine Kd.C_alloc ?_ _) | (with_reducible refine Kd.C_drewN ?_ _) | (with_reducible refine Kd.C_drew ?_)))
        (case side2 => exact HC0_2.out)
        rintro e w62 ⟨rfl, hb⟩
        refine ⟨_, rfl, ?_⟩
        have n0_ := Aside0.mk (Kd.R_below (rk HO390) hb)
        have n1_ := Aside0.mk (Kd.R_below (rk HO397) hb)
        have n2_ := Aside0.mk (Kd.R_below (rk HO404) hb)
        have n3_ := Aside0.mk (Kd.R_below (rk HO411) hb)
        have n4_ := kl BK383 hb
        have n5_ := kl BK392 hb
        have n6_ := kl BK399 hb
        have n7_ := kl BK406 hb
        have n8_ := kl BK413 hb
        have n9_ := ls5 HB GE383 GE392 GE399 GE406 GE413 hb
        clear HO390
        clear HO397
        clear HO404
        clear HO411
        clear BK383
        clear BK392
        clear BK399
        clear BK406
        clear BK413
        clear HB
        have HO390 := n0_
        have HO397 := n1_
        have HO404 := n2_
        have HO411 := n3_
        have BK383 := n4_
        have BK392 := n5_
        have BK399 := n6_
        have BK406 := n7_
        have BK413 := n8_
        have HB := n9_
        clear n0_ n1_ n2_ n3_ n4_ n5_ n6_ n7_ n8_ n9_
        (try clear hb)
        (try clear hb2)
        (try clear hk)
        (try clear hi)
        refine hK.out _ _ ⟨(blk_cell BK392.out 0).trans rfl, (blk_cell BK392.out 1).trans rfl, (blk_cell BK392.out 2).trans rfl, (blk_cell BK399.out 0).trans rfl, (blk_cell BK399.out 1).trans rfl, (blk_cell BK399.out 2).trans rfl, (blk_cell BK406.out 0).trans rfl, (blk_cell BK406.out 1).trans rfl, (blk_cell BK406.out 2).trans rfl, (blk_cell BK413.out 0).trans rfl, (blk_cell BK413.out 1).trans rfl, (blk_cell BK413.out 2).trans rfl, (blk_cell BK383.out 0).trans rfl, (blk_cell BK383.out 1).trans rfl, (blk_cell BK383.out 2).trans rfl⟩ (fun hHeld => ?_)
        clear hK K
        refine n_ 69 ?_
        refine p_ 23 70 HT_ ?_
        refine p_ 24 71 HT_ ?_
        refine p_ 25 72 HT_ ?_
        refine t_ 26 73 HT_ HW_ rfl rfl hHeld (by rintro w' ⟨s0, s1, s2, s3, s4, s5, s6, s7, s8, s9, s10, s11, s12, s13, s14⟩; go_simp; with_reducible rfl) ?_
        refine t_ 28 75 HT_ HW_ rfl rfl hHeld (by rintro w' ⟨s0, s1, s2, s3, s4, s5, s6, s7, s8, s9, s10, s11, s12, s13, s14⟩; go_simp; with_reducible rfl) ?_
        refine o_ 27 74 HT_ (fun K hK => ?_)
        refine goes_ Tryd.func31 (by kernel_rfl) rfl #[.agg #[.string a0_0, .int .i64 a0_1, .slice A0_2 l0_2.length c0_2]] (by rfl) rfl rfl (by (try simp only [List.map_toArray, List.map_cons, List.map_nil]); first | done | rfl | (simp only [List.length_drop, List.length_take]; rfl)) ?_
        with_reducible refine (prepaid_Worth.calls k a0_0 a0_1 _ _ l0_2 t418 _ ?side1 ?side2 A21.out).mono ?_
        (case side1 => repeat (first | exact (Kd.C_below HR0_2.out HB.out) | (with_reducible refine Kd.C_alloc ?_ _) | (with_reducible refine Kd.C_drewN ?_ _) | (with_reducible refine Kd.C_drew ?_)))
        (case side2 => exact HC0_2.out)
        rintro e w63 ⟨rfl, hb⟩
        refine ⟨_, rfl, ?_⟩
        have n0_ := Aside0.mk (Kd.R_below (rk HO390) hb)
        have n1_ := Aside0.mk (Kd.R_below (rk HO397) hb)
        have n2_ := Aside0.mk (Kd.R_below (rk HO404) hb)
        have n3_ := Aside0.mk (Kd.R_below (rk HO411) hb)
        have n4_ := kl BK383 hb
        have n5_ := kl BK392 hb
        have n6_ := kl BK399 hb
        have n7_ := kl BK406 hb
        have n8_ := kl BK413 hb
        have n9_ := ls5 HB GE383 GE392 GE399 GE406 GE413 hb
        clear HO390
        clear HO397
        clear HO404
        clear HO411
        clear BK383
        clear BK392
        clear BK399
        clear BK406
        clear BK413
        clear HB
        have HO390 := n0_
        have HO397 := n1_
        have HO404 := n2_
        have HO411 := n3_
        have BK383 := n4_
        have BK392 := n5_
        have BK399 := n6_
        have BK406 := n7_
        have BK413 := n8_
        have HB := n9_
        clear n0_ n1_ n2_ n3_ n4_ n5_ n6_ n7_ n8_ n9_
        (try clear hb)
        (try clear hb2)
        (try clear hk)
        (try clear hi)
        refine hK.out _ _ ⟨(blk_cell BK392.out 0).trans rfl, (blk_cell BK392.out 1).trans rfl, (blk_cell BK392.out 2).trans rfl, (blk_cell BK399.out 0).trans rfl, (blk_cell BK399.out 1).trans rfl, (blk_cell BK399.out 2).trans rfl, (blk_cell BK406.out 0).trans rfl, (blk_cell BK406.out 1).trans rfl, (blk_cell BK406.out 2).trans rfl, (blk_cell BK413.out 0).trans rfl, (blk_cell BK413.out 1).trans rfl, (blk_cell BK413.out 2).trans rfl, (blk_cell BK383.out 0).trans rfl, (blk_cell BK383.out 1).trans rfl, (blk_cell BK383.out 2).trans rfl⟩ (fun hHeld => ?_)
        clear hK K
        refine n_ 74 ?_
        refine o_ 29 76 HT_ (fun K hK => ?_)
        refine goes_ Tryd.func32 (by kernel_rfl) rfl #[.agg #[.string a0_0, .int .i64 a0_1, .slice A0_2 l0_2.length c0_2]] (by rfl) rfl rfl (by (try simp only [List.map_toArray, List.map_cons, List.map_nil]); first | done | rfl | (simp only [List.length_drop, List.length_take]; rfl)) ?_
        with_reducible refine (crossbarref28_Worth.calls k a0_0 a0_1 _ _ l0_2 t419 _ ?side1 ?side2 A22.out).mono ?_
        (case side1 => repeat (first | exact (Kd.C_below HR0_2.out HB.out) | (with_reducible refine Kd.C_alloc ?_ _) | (with_reducible refine Kd.C_drewN ?_ _) | (with_reducible refine Kd.C_drew ?_)))
        (case side2 => exact HC0_2.out)
        rintro e w64 ⟨rfl, hb⟩
        refine ⟨_, rfl, ?_⟩
        have n0_ := Aside0.mk (Kd.R_below (rk HO390) hb)
        have n1_ := Aside0.mk (Kd.R_below (rk HO397) hb)
        have n2_ := Aside0.mk (Kd.R_below (rk HO404) hb)
        have n3_ := Aside0.mk (Kd.R_below (rk HO411) hb)
        have n4_ := kl BK383 hb
        have n5_ := kl BK392 hb
        have n6_ := kl BK399 hb
        have n7_ := kl BK406 hb
        have n8_ := kl BK413 hb
        have n9_ := ls5 HB GE383 GE392 GE399 GE406 GE413 hb
        clear HO390
        clear HO397
        clear HO404
        clear HO411
        clear BK383
        clear BK392
        clear BK399
        clear BK406
        clear BK413
        clear HB
        have HO390 := n0_
        have HO397 := n1_
        have HO404 := n2_
        have HO411 := n3_
        have BK383 := n4_
        have BK392 := n5_
        have BK399 := n6_
        have BK406 := n7_
        have BK413 := n8_
        have HB := n9_
        clear n0_ n1_ n2_ n3_ n4_ n5_ n6_ n7_ n8_ n9_
        (try clear hb)
        (try clear hb2)
        (try clear hk)
        (try clear hi)
        refine hK.out _ _ ⟨(blk_cell BK392.out 0).trans rfl, (blk_cell BK392.out 1).trans rfl, (blk_cell BK392.out 2).trans rfl, (blk_cell BK399.out 0).trans rfl, (blk_cell BK399.out 1).trans rfl, (blk_cell BK399.out 2).trans rfl, (blk_cell BK406.out 0).trans rfl, (blk_cell BK406.out 1).trans rfl, (blk_cell BK406.out 2).trans rfl, (blk_cell BK413.out 0).trans rfl, (blk_cell BK413.out 1).trans rfl, (blk_cell BK413.out 2).trans rfl, (blk_cell BK383.out 0).trans rfl, (blk_cell BK383.out 1).trans rfl, (blk_cell BK383.out 2).trans rfl⟩ (fun hHeld => ?_)
        clear hK K
        refine n_ 76 ?_
        refine p_ 30 77 HT_ ?_
        refine p_ 31 78 HT_ ?_
        refine p_ 32 6 HT_ ?_
        refine done_ (done_of HT_.out (by kernel_rfl)) ?_
        try go_wp2
        go_ret
        exact ⟨by first | rfl | (simp [errW_none, errW_some] <;> rfl) | (simp [*, errW_none, errW_some] <;> rfl), lb5 HB GE383 GE392 GE399 GE406 GE413⟩
       ·rw [if_neg c20] at H
        have c20b0 : (t416 == t417) = false := beq_eq_false_iff_ne.mpr c20
        have c20b1 : (t416 != t417) = true := bne_iff_ne.mpr c20
        exact absurd ((Option.some.inj H).trans HT_TRUE.out) (by simp)
      ·rw [if_neg c17] at H
       have c17b0 : (t405 == t412) = false := beq_eq_false_iff_ne.mpr c17
       have c17b1 : (t405 != t412) = true := bne_iff_ne.mpr c17
       exact absurd ((Option.some.inj H).trans HT_TRUE.out) (by simp)
     ·replace c16 := Bool.eq_false_iff.mpr c16
      subst c16
      have H1 : (some false) = some r := by rw [if_neg (show ¬ (false = true) by decide)] at H; exact H
      clear H
      have H := H1
      clear H1
      exact absurd ((Option.some.inj H).trans HT_TRUE.out) (by simp)
    ·rw [if_neg c14] at H
     have c14b0 : (t391 == t398) = false := beq_eq_false_iff_ne.mpr c14
     have c14b1 : (t391 != t398) = true := bne_iff_ne.mpr c14
     exact absurd ((Option.some.inj H).trans HT_TRUE.out) (by simp)
   ·replace c13 := Bool.eq_false_iff.mpr c13
    subst c13
    have H1 : (some false) = some r := by rw [if_neg (show ¬ (false = true) by decide)] at H; exact H
    clear H
    have H := H1
    clear H1
    exact absurd ((Option.some.inj H).trans HT_TRUE.out) (by simp)
  ·replace c7 := Bool.eq_false_iff.mpr c7
   subst c7
   have H1 : (some true) = some r := by rw [if_neg (show ¬ (false = true) by decide)] at H; exact H
   clear H
   have H := H1
   clear H1
   obtain rfl := Option.some.inj H
   go_enter Tryd.func8, Tryd.ntmps8
   go_wp2_with (first | ((with_reducible refine gate_dst (N := 3) rfl ?_); refine box_event ?hg (N := 3) ?hd (cs := #[.string a0_0, .int .i64 a0_1, .slice A0_2 l0_2.length c0_2]) (t := 31) ?hr ?_; (case hd => rfl); (case hg => rfl); (case hr => first | (go_simp; done) | (go_simp; rfl)); intro gb383 hg w65 hbox hb; have n0_ := ls0 HB hb; have n1_ := Aside0.mk (hbox); have n2_ := Aside0.mk ((by rw [hg]; exact (below_size (lb0 HB)) : w.heap.size ≤ gb383)); have n3_ := Aside0.mk ((by rw [hg]; exact (below_size (lb0 HB)) : w.heap.size ≤ gb383)); clear HB; have HB := n0_; have BK383 := n1_; have GW383 := n2_; have GE383 := n3_; clear n0_ n1_ n2_ n3_; clear hb hbox hg) | ((with_reducible refine gate_callee (f := 21) rfl ?_); refine goesL_ (some 15) rfl rfl Tryd.func21 (by kernel_rfl) rfl #[] rfl (by (try simp only [List.map_toArray, List.map_cons, List.map_nil]); first | done | rfl | (simp only [List.length_drop, List.length_take]; rfl)) ?_; (with_reducible refine (crossbarlaw28_sane.calls k  true _ A4.out).mono ?_); rintro e w66 ⟨rfl, hb⟩; refine ⟨_, rfl, ?_⟩; have n0_ := kl BK383 hb; have n1_ := ls1 HB GE383 hb; clear BK383; clear HB; have BK383 := n0_; have HB := n1_; clear n0_ n1_; (try clear hb); (try clear hb2); (try clear hk); (try clear hi); have hcz67_0 := bc BK383 0; have hcz67_1 := bc BK383 1; have hcz67_2 := bc BK383 2; have hfz67_0 := blk_frozen BK383.out 0; have hfz67_1 := blk_frozen BK383.out 1; have hfz67_2 := blk_frozen BK383.out 2) | ((with_reducible refine gate_callee (f := 22) rfl ?_); refine goesL_ (some 19) rfl rfl Tryd.func22 (by kernel_rfl) rfl #[.agg #[.string a0_0, .int .i64 a0_1, .slice A0_2 l0_2.length c0_2], .agg #[.slice none 0 0]] rfl (by (try simp only [List.map_toArray, List.map_cons, List.map_nil]); first | done | rfl | (simp only [List.length_drop, List.length_take]; rfl)) ?_; (refine (crossbarref28_Few.calls a0_0 a0_1 _ _ l0_2 _ _ ([] : List (S70)) false _ ?side1 ?side2 ?side3 ?side4 A6.out).mono ?_); (case side1 => repeat (first | exact (Kd.C_below HR0_2.out HB.out) | (with_reducible refine Kd.C_alloc ?_ _) | (with_reducible refine Kd.C_drewN ?_ _) | (with_reducible refine Kd.C_drew ?_))); (case side2 => exact HC0_2.out); (case side3 => exact Kd.C_nil _ _); (case side4 => exact Nat.le_refl _); rintro e w68 ⟨rfl, hb⟩; refine ⟨_, rfl, ?_⟩; have n0_ := kl BK383 hb; have n1_ := ls1 HB GE383 hb; clear BK383; clear HB; have BK383 := n0_; have HB := n1_; clear n0_ n1_; (try clear hb); (try clear hb2); (try clear hk); (try clear hi)))
   go_ret
   exact ⟨by first | rfl | (simp [errW_none, errW_some] <;> rfl) | (simp [*, errW_none, errW_some] <;> rfl), lb1 HB GE383⟩
 ·replace c5 := Bool.eq_false_iff.mpr c5
  subst c5
  have H1 : (some false) = some r := by rw [if_neg (show ¬ (false = true) by decide)] at H; exact H
  clear H
  have H := H1
  clear H1
  exact absurd ((Option.some.inj H).trans HT_TRUE.out) (by simp)

end Go.Proofs.YtldpacphackdjaaDoor.Print
/- What the reference's without, Settle and Deposit answer: the same as the program's. Conditions: enough rounds. -/
namespace Go.Proofs.YtldpacphackdjaaDoor.Print
open Go.RowKit Go.Proofs.YtldpacphackdjaaDoorW.PrintWords Go.Proofs.YtldpacphackdjaaDoorW.PrintLast Go.Proofs.YtldpacphackdjaaDoorW.PrintMore
set_option linter.unusedVariables false
set_option linter.unusedSimpArgs false

theorem without_l0 (l : List S54) (hl : l.length ≤ 1000000) (ref : Int) : ∀ (d j k : Nat) (out : List S54), l.length - j = d → d + 1 ≤ k → out.length ≤ j → crossbarref28_without.l0 k l ref out (j : Int) = some (out ++ (l.drop j).filter fun x => !decide (x.f0 = ref)) := by
  intro d
  induction d with
  | zero =>
    intro j k out hd hk ho
    obtain ⟨k, rfl⟩ : ∃ i, k = i + 1 := ⟨k - 1, by omega⟩
    simp only [crossbarref28_without.l0]
    rw [if_neg (by omega), List.drop_of_length_le (by omega)]
    simp
  | succ d ih =>
    intro j k out hd hk ho
    obtain ⟨k, rfl⟩ : ∃ i, k = i + 1 := ⟨k - 1, by omega⟩
    have hj : j < l.length := by omega
    simp only [crossbarref28_without.l0]
    rw [if_pos (by omega), if_pos (by omega), pw1 (by omega), dropH_at l j hj]
    by_cases h : (rd_T54 l (j : Int)).f0 = ref
    · rw [if_pos h, ih (j + 1) k out (by omega) (by omega) (by omega), List.filter_cons_of_neg (by simp [h])]
    · rw [if_neg h]
      by_cases hg : out.length < 5864062014805
      · rw [if_pos hg, ih (j + 1) k _ (by omega) (by omega) (by simp; omega), List.filter_cons_of_pos (by simp [h])]
        simp
      · omega
theorem without_is (l : List S54) (hl : l.length ≤ 1000000) (ref : Int) (k : Nat) (hk : l.length + 1 ≤ k) : crossbarref28_without.f k l ref = some (l.filter fun x => !decide (x.f0 = ref)) := by
  unfold crossbarref28_without.f
  have := without_l0 l hl ref l.length 0 k [] (by omega) (by omega) (by simp)
  rw [show ((0 : Nat) : Int) = 0 from rfl] at this
  rw [this]
  simp
theorem rsettle_is (s : ByteArray) (b : Int) (l : List S54) (ref used : Int) (k : Nat) (hk : 4000 ≤ k) : crossbarref28_Settle.f k s b l ref used = prepaid_Settle.f s b l ref used := by
  unfold crossbarref28_Settle.f
  rw [rcheck28_is s b l k (by omega), Option.bind_some]
  unfold prepaid_Settle.f
  by_cases hp : pchk s b l = 0
  · have ha := (pchk_zero s b l).1 hp
    have hlen := ha.len
    have hfi := find_sorted ha.holds (by omega) ref s b k (by omega)
    rw [if_pos hp, if_pos hp]
    by_cases hu : used < 0
    · rw [hfi, Option.bind_some, if_pos hu, if_pos hu]
    · rw [if_neg hu]
      cases hf : foundH ref l with
      | true =>
        have hi := found_lt hf
        have hbd := units_bd ha _ hi
        rw [if_pos hf] at hfi
        rw [hfi, Option.bind_some, if_neg hu, if_pos rfl, if_neg (by omega), if_pos (by omega), if_pos (by omega), without_is l (by omega) ref k (by omega), Option.bind_some, filter_ne ha.holds ref hf]
        rw [show wrap64 (b + (rd_T54 l (placeH ref l : Int)).f1) = b + (rd_T54 l (placeH ref l : Int)).f1 by have := ha.bal; unfold wrap64; omega]
      | false =>
        rw [if_neg (by rw [hf]; simp)] at hfi
        rw [hfi, Option.bind_some, if_neg hu, if_pos (by omega), if_neg (by simp)]
  · rw [if_neg hp, if_neg hp]
theorem rdeposit_is (s : ByteArray) (b : Int) (l : List S54) (n : Int) (k : Nat) (hk : 4000 ≤ k) : crossbarref28_Deposit.f k s b l n = prepaid_Deposit.f s b l n := by
  unfold crossbarref28_Deposit.f
  rw [rcheck28_is s b l k (by omega), Option.bind_some]
  unfold prepaid_Deposit.f
  by_cases hp : pchk s b l = 0
  · have ha := (pchk_zero s b l).1 hp
    have hlen := ha.len
    have hsum := (sumU_bd _ _ ha.holds).1
    have hs2 := ha.sum
    have hb := ha.bal
    rw [if_pos hp, if_pos hp, rwithin_is, Option.bind_some]
    by_cases hu : 0 ≤ n ∧ n ≤ 1099511627776
    · rw [if_pos (decide_eq_true hu), if_pos hu, rworth_is s b l (by omega) k (by omega), Option.bind_some, rwithin_is, Option.bind_some, acc_worth ha.len ha.bal ha.holds]
      rw [show wrap64 (b + sumU l + n) = b + sumU l + n by unfold wrap64; omega]
      by_cases h1 : b + sumU l + n ≤ 1099511627776
      · rw [if_pos (decide_eq_true ⟨by omega, h1⟩), if_neg (by omega)]
        simp only [Option.bind_some, List.nil_append, List.length_nil]
        rw [if_pos (by omega), show wrap64 (b + n) = b + n by unfold wrap64; omega]
      · rw [if_neg (by simp; omega), if_pos (by omega)]
    · rw [if_neg (by simpa using hu), if_neg hu]
  · rw [if_neg hp, if_neg hp]
end Go.Proofs.YtldpacphackdjaaDoor.Print
/- That the printed law PrepaidMatchesAccounts answers true at every account, call and number of units. No condition that the law itself does not guard. -/
namespace Go.Proofs.YtldpacphackdjaaDoor.Print
open Go.RowKit Go.Proofs.YtldpacphackdjaaDoorW.PrintWords Go.Proofs.YtldpacphackdjaaDoorW.PrintLast Go.Proofs.YtldpacphackdjaaDoorW.PrintMore
set_option linter.unusedVariables false
theorem settle_any (s : ByteArray) (b : Int) (l : List S54) (ref used : Int) : ∃ r1 r2 r3 r4, prepaid_Settle.f s b l ref used = some (r1, r2, r3, r4) ∧ r3.length ≤ 1024 := by
  by_cases hok : Acc s b l ∧ 0 ≤ used ∧ foundH ref l = true
  · have hi := found_lt hok.2.2
    have hl := hok.1.len
    exact ⟨_, _, _, _, settle_ok hok.1 ref used hok.2.1 hok.2.2, by rw [length_drop l _ hi]; omega⟩
  · obtain ⟨e, he, _⟩ := settle_no ref used hok
    exact ⟨_, _, _, _, he, by simp⟩
theorem deposit_any (s : ByteArray) (b : Int) (l : List S54) (n : Int) : ∃ r1 r2 r3 r4, prepaid_Deposit.f s b l n = some (r1, r2, r3, r4) ∧ r3.length ≤ 1024 := by
  by_cases hok : Acc s b l ∧ 0 ≤ n ∧ b + sumU l + n ≤ 1099511627776
  · exact ⟨_, _, _, _, deposit_ok hok.1 n hok.2.1 hok.2.2, hok.1.len⟩
  · obtain ⟨e, he, _⟩ := deposit_no n hok
    exact ⟨_, _, _, _, he, by simp⟩
theorem PrepaidMatchesAccounts_pure (s : ByteArray) (b : Int) (l : List S54) (ref n : Int) (hs : s.size ≤ maxLen) (hb : Rng b) (hn : l.length ≤ 9223372036854775807) (hw : ∀ x ∈ l, Rng x.f0 ∧ Rng x.f1 ∧ Rng x.f2) (w1 : (Lit.int .i64 ref).wf = true) (w2 : (Lit.int .i64 n).wf = true) : ∃ k, crossbarlaw28_PrepaidMatchesAccounts.f k s b l ref n = some true := by
  refine ⟨6000, ?_⟩
  unfold crossbarlaw28_PrepaidMatchesAccounts.f
  rw [sane28_is 6000 (by omega), Option.bind_some, if_pos rfl, few28_is, Option.bind_some]
  by_cases hf : l.length ≤ 1100 ∧ s.size ≤ 100 ∧ ([] : List S70).length ≤ 100
  · rw [if_pos (decide_eq_true hf), rsettle_is s b l ref n 6000 (by omega), rdeposit_is s b l n 6000 (by omega)]
    obtain ⟨r1, r2, r3, r4, he, hl⟩ := settle_any s b l ref n
    obtain ⟨q1, q2, q3, q4, hd, hl2⟩ := deposit_any s b l n
    rw [he, hd]
    simp only [Option.bind_some]
    rw [same_refl r1 r2 r3 (by omega) 6000 (by omega), same_refl q1 q2 q3 (by omega) 6000 (by omega), pcheck_is s b l 6000 (by omega), rcheck28_is s b l 6000 (by omega), worth_is s b l (by omega) 6000 (by omega), rworth_is s b l (by omega) 6000 (by omega)]
    simp
  · rw [if_neg (by simpa using hf)]
end Go.Proofs.YtldpacphackdjaaDoor.Print
