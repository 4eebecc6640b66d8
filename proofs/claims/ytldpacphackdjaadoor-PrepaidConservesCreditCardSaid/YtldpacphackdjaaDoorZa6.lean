/- Parts of the proofs of layer 28's laws, joined in one file by a program of the session; each part begins with its own sentence. -/
import Derived.Test.YtldpacphackdjaaDoorZaSq
import Derived.Test.YtldpacphackdjaaDoorZaK0
import Derived.Test.YtldpacphackdjaaDoorZaE1
import Derived.Test.YtldpacphackdjaaDoorZaHPSettle
import Derived.Test.YtldpacphackdjaaDoorZa3
import Derived.Test.YtldpacphackdjaaDoorZaHPResA
import Derived.Test.YtldpacphackdjaaDoorZaF21
import Derived.Test.YtldpacphackdjaaDoorRows
import Derived.ProofKit
import Derived.WalkKit
import Derived.OpenShut
import Derived.ChangeOld
import Derived.Below
import Derived.SizedLaws
import Derived.Deep.SlicePairs
import Derived.Deep.Strs
import Derived.ChangeMaps5
/- That the call of function 54 (crossbarref26_Few) answers what the Lean function of the same name answers, at every input at which that one answers. (Written by a program of the session, which drives the kit's printer.) -/
namespace Go.Proofs.YtldpacphackdjaaDoor.Print
open Go.RowKit Go.Proofs.YtldpacphackdjaaDoorW.PrintWords Go.Proofs.YtldpacphackdjaaDoorW.PrintLast Go.Proofs.YtldpacphackdjaaDoorW.PrintMore
attribute [local go_sem] max2_int min2_int max_two min_two max_three min_three max_four min_four   -- for this text's walks alone
set_option linter.unusedVariables false
set_option linter.unusedSimpArgs false

/-! ### crossbarref26_Few: function 54 -/
def crossbarref26_Few.f (l0_0 : List (S70)) : Option (Bool) := some (decide ((l0_0.length : Int) ≤ 100))
set_option maxHeartbeats 8000000 in
set_option maxRecDepth 100000 in
theorem crossbarref26_Few.calls (A0_0 : Option Addr) (c0_0 : Nat) (l0_0 : List (S70)) (r : Bool) (w : World) (hr0_0 : Kd.C k70 w A0_0 l0_0.length l0_0) (hc0_0 : l0_0.length ≤ c0_0) (h : crossbarref26_Few.f l0_0 = some r) :
  Calls Tryd.prog 54 #[.agg #[.slice A0_0 l0_0.length c0_0]] w fun e w' => e = .returned (.bool r) ∧ Below w.heap.size w w' := by
 have hu24 := Tryd.underlying24
 have HR0_0 := Aside0.mk hr0_0
 have HC0_0 := Aside0.mk hc0_0
 clear hr0_0 hc0_0
 have HB := Aside0.mk (Below.refl w.heap.size w)
 have H : (some (decide ((l0_0.length : Int) ≤ 100))) = some r := h
 clear h
 obtain rfl := Option.some.inj H
 go_enter Tryd.func54, Tryd.ntmps54
 go_wp2_with (first | ((with_reducible refine gate_dst (N := 1) rfl ?_); refine box_event ?hg (N := 1) ?hd (cs := #[.slice A0_0 l0_0.length c0_0]) (t := 24) ?hr ?_; (case hd => rfl); (case hg => rfl); (case hr => first | (go_simp; done) | (go_simp; rfl)); intro gb180 hg w2 hbox hb; have n0_ := ls0 HB hb; have n1_ := Aside0.mk (hbox); have n2_ := Aside0.mk ((by rw [hg]; exact (below_size (lb0 HB)) : w.heap.size ≤ gb180)); have n3_ := Aside0.mk ((by rw [hg]; exact (below_size (lb0 HB)) : w.heap.size ≤ gb180)); clear HB; have HB := n0_; have BK180 := n1_; have GW180 := n2_; have GE180 := n3_; clear n0_ n1_ n2_ n3_; clear hb hbox hg; have hcz3_0 := bc BK180 0; have hfz3_0 := blk_frozen BK180.out 0))
 go_ret
 exact ⟨by first | rfl | (simp [errW_none, errW_some] <;> rfl) | (simp [*, errW_none, errW_some] <;> rfl), lb1 HB GE180⟩

end Go.Proofs.YtldpacphackdjaaDoor.Print
/- That the call of function 22 (crossbarref28_Few) answers what the Lean function of the same name answers, at every input at which that one answers. (Written by a program of the session, which drives the kit's printer.) -/
namespace Go.Proofs.YtldpacphackdjaaDoor.Print
open Go.RowKit Go.Proofs.YtldpacphackdjaaDoorW.PrintWords Go.Proofs.YtldpacphackdjaaDoorW.PrintLast Go.Proofs.YtldpacphackdjaaDoorW.PrintMore
attribute [local go_sem] max2_int min2_int max_two min_two max_three min_three max_four min_four   -- for this text's walks alone
set_option linter.unusedVariables false
set_option linter.unusedSimpArgs false

/-! ### crossbarref28_Few: function 22 -/
def crossbarref28_Few.f (a0_0 : ByteArray) (a0_1 : Int) (l0_2 : List (S54)) (l1_0 : List (S70)) : Option (Bool) := if (l0_2.length : Int) ≤ 1100 then (if (a0_0.size : Int) ≤ 100 then ((crossbarref26_Few.f l1_0).bind fun t183 => (some t183)) else (some false)) else (some false)
set_option maxHeartbeats 8000000 in
set_option maxRecDepth 100000 in
theorem crossbarref28_Few.calls (a0_0 : ByteArray) (a0_1 : Int) (A0_2 : Option Addr) (c0_2 : Nat) (l0_2 : List (S54)) (A1_0 : Option Addr) (c1_0 : Nat) (l1_0 : List (S70)) (r : Bool) (w : World) (hr0_2 : Kd.C k54 w A0_2 l0_2.length l0_2) (hc0_2 : l0_2.length ≤ c0_2) (hr1_0 : Kd.C k70 w A1_0 l1_0.length l1_0) (hc1_0 : l1_0.length ≤ c1_0) (h : crossbarref28_Few.f a0_0 a0_1 l0_2 l1_0 = some r) :
  Calls Tryd.prog 22 #[.agg #[.string a0_0, .int .i64 a0_1, .slice A0_2 l0_2.length c0_2], .agg #[.slice A1_0 l1_0.length c1_0]] w fun e w' => e = .returned (.bool r) ∧ Below w.heap.size w w' := by
 have hu31 := Tryd.underlying31
 have hu24 := Tryd.underlying24
 have HR0_2 := Aside0.mk hr0_2
 have HC0_2 := Aside0.mk hc0_2
 clear hr0_2 hc0_2
 have HR1_0 := Aside0.mk hr1_0
 have HC1_0 := Aside0.mk hc1_0
 clear hr1_0 hc1_0
 have HB := Aside0.mk (Below.refl w.heap.size w)
 have H : (if (l0_2.length : Int) ≤ 1100 then (if (a0_0.size : Int) ≤ 100 then ((crossbarref26_Few.f l1_0).bind fun t183 => (some t183)) else (some false)) else (some false)) = some r := h
 clear h
 by_cases c3 : (l0_2.length : Int) ≤ 1100
 ·rw [if_pos c3] at H
  have c3b0 : decide ((l0_2.length : Int) ≤ 1100) = true := decide_eq_true c3
  have c3b1 : decide (l0_2.length ≤ 1100) = true := decide_eq_true (by omega)
  clear c3
  by_cases c4 : (a0_0.size : Int) ≤ 100
  ·rw [if_pos c4] at H
   have c4b0 : decide ((a0_0.size : Int) ≤ 100) = true := decide_eq_true c4
   have c4b1 : decide (a0_0.size ≤ 100) = true := decide_eq_true (by omega)
   clear c4
   replace H := Option.bind_eq_some_iff.mp H
   obtain ⟨t183, A50, H⟩ := H
   replace H : (some t183) = some r := H
   have A5 := Aside0.mk A50
   clear A50
   obtain rfl := Option.some.inj H
   go_enter Tryd.func22, Tryd.ntmps22
   go_wp2_with (first | ((with_reducible refine gate_dst (N := 2) rfl ?_); (try (refine gate_guard (by rfl) ?_; dsimp only)); refine box_event ?hg (N := 2) ?hd (cs := #[.string a0_0, .int .i64 a0_1, .slice A0_2 l0_2.length c0_2]) (t := 31) ?hr ?_; (case hd => rfl); (case hg => rfl); (case hr => first | (go_simp; done) | (go_simp; rfl)); intro gb181 hg w6 hbox hb; have n0_ := ls0 HB hb; have n1_ := Aside0.mk (hbox); have n2_ := Aside0.mk ((by rw [hg]; exact (below_size (lb0 HB)) : w.heap.size ≤ gb181)); have n3_ := Aside0.mk ((by rw [hg]; exact (below_size (lb0 HB)) : w.heap.size ≤ gb181)); clear HB; have HB := n0_; have BK181 := n1_; have GW181 := n2_; have GE181 := n3_; clear n0_ n1_ n2_ n3_; clear hb hbox hg) | ((with_reducible refine gate_dst (N := 3) rfl ?_); (try (refine gate_guard (by rfl) ?_; dsimp only)); refine box_event ?hg (N := 3) ?hd (cs := #[.slice A1_0 l1_0.length c1_0]) (t := 24) ?hr ?_; (case hd => rfl); (case hg => rfl); (case hr => first | (go_simp; done) | (go_simp; rfl)); intro gb182 hg w7 hbox hb; have n0_ := kl BK181 hb; have n1_ := ls1 HB GE181 hb; have n2_ := Aside0.mk (hbox); have n3_ := Aside0.mk ((by rw [hg]; exact (below_size (lb1 HB GE181)) : w.heap.size ≤ gb182)); have n4_ := Aside0.mk ((by rw [hg]; exact (below_size (lb1 HB GE181)) : w.heap.size ≤ gb182)); have n5_ := kn BK181 hg; have n6_ := km BK181 hg; clear BK181; clear HB; have BK181 := n0_; have HB := n1_; have BK182 := n2_; have GW182 := n3_; have GE182 := n4_; have NB181_182 := n5_; have NB182_181 := n6_; clear n0_ n1_ n2_ n3_ n4_ n5_ n6_; clear hb hbox hg; have hnb8 := NB181_182.out; have hnc8 := NB182_181.out; have hcz9_0 := bc BK181 0; have hcz9_1 := bc BK181 1; have hcz9_2 := bc BK181 2; have hfz9_0 := blk_frozen BK181.out 0; have hfz9_1 := blk_frozen BK181.out 1; have hfz9_2 := blk_frozen BK181.out 2; have hcz10_0 := bc BK182 0; have hfz10_0 := blk_frozen BK182.out 0) | (go_at_call 54; (with_reducible refine (crossbarref26_Few.calls _ _ l1_0 t183 _ ?side1 ?side2 A5.out).mono ?_); (case side1 => repeat (first | exact (Kd.C_below HR1_0.out HB.out) | (with_reducible refine Kd.C_alloc ?_ _) | (with_reducible refine Kd.C_drewN ?_ _) | (with_reducible refine Kd.C_drew ?_))); (case side2 => exact HC1_0.out); rintro e w11 ⟨rfl, hb⟩; have n0_ := kl BK181 hb; have n1_ := kl BK182 hb; have n2_ := ls2 HB GE181 GE182 hb; clear BK181; clear BK182; clear HB; have BK181 := n0_; have BK182 := n1_; have HB := n2_; clear n0_ n1_ n2_; (try clear hb); (try clear hb2); (try clear hk); (try clear hi)))
   go_ret
   exact ⟨by first | rfl | (simp [errW_none, errW_some] <;> rfl) | (simp [*, errW_none, errW_some] <;> rfl), lb2 HB GE181 GE182⟩
  ·rw [if_neg c4] at H
   have c4b0 : decide ((a0_0.size : Int) ≤ 100) = false := decide_eq_false c4
   have c4b1 : decide (a0_0.size ≤ 100) = false := decide_eq_false (by omega)
   clear c4
   obtain rfl := Option.some.inj H
   go_enter Tryd.func22, Tryd.ntmps22
   go_wp2_with (first | ((with_reducible refine gate_dst (N := 2) rfl ?_); (try (refine gate_guard (by rfl) ?_; dsimp only)); refine box_event ?hg (N := 2) ?hd (cs := #[.string a0_0, .int .i64 a0_1, .slice A0_2 l0_2.length c0_2]) (t := 31) ?hr ?_; (case hd => rfl); (case hg => rfl); (case hr => first | (go_simp; done) | (go_simp; rfl)); intro gb181 hg w12 hbox hb; have n0_ := ls0 HB hb; have n1_ := Aside0.mk (hbox); have n2_ := Aside0.mk ((by rw [hg]; exact (below_size (lb0 HB)) : w.heap.size ≤ gb181)); have n3_ := Aside0.mk ((by rw [hg]; exact (below_size (lb0 HB)) : w.heap.size ≤ gb181)); clear HB; have HB := n0_; have BK181 := n1_; have GW181 := n2_; have GE181 := n3_; clear n0_ n1_ n2_ n3_; clear hb hbox hg) | ((with_reducible refine gate_dst (N := 3) rfl ?_); (try (refine gate_guard (by rfl) ?_; dsimp only)); refine box_event ?hg (N := 3) ?hd (cs := #[.slice A1_0 l1_0.length c1_0]) (t := 24) ?hr ?_; (case hd => rfl); (case hg => rfl); (case hr => first | (go_simp; done) | (go_simp; rfl)); intro gb182 hg w13 hbox hb; have n0_ := kl BK181 hb; have n1_ := ls1 HB GE181 hb; have n2_ := Aside0.mk (hbox); have n3_ := Aside0.mk ((by rw [hg]; exact (below_size (lb1 HB GE181)) : w.heap.size ≤ gb182)); have n4_ := Aside0.mk ((by rw [hg]; exact (below_size (lb1 HB GE181)) : w.heap.size ≤ gb182)); have n5_ := kn BK181 hg; have n6_ := km BK181 hg; clear BK181; clear HB; have BK181 := n0_; have HB := n1_; have BK182 := n2_; have GW182 := n3_; have GE182 := n4_; have NB181_182 := n5_; have NB182_181 := n6_; clear n0_ n1_ n2_ n3_ n4_ n5_ n6_; clear hb hbox hg; have hnb14 := NB181_182.out; have hnc14 := NB182_181.out; have hcz15_0 := bc BK181 0; have hcz15_1 := bc BK181 1; have hcz15_2 := bc BK181 2; have hfz15_0 := blk_frozen BK181.out 0; have hfz15_1 := blk_frozen BK181.out 1; have hfz15_2 := blk_frozen BK181.out 2))
   go_ret
   exact ⟨by first | rfl | (simp [errW_none, errW_some] <;> rfl) | (simp [*, errW_none, errW_some] <;> rfl), lb2 HB GE181 GE182⟩
 ·rw [if_neg c3] at H
  have c3b0 : decide ((l0_2.length : Int) ≤ 1100) = false := decide_eq_false c3
  have c3b1 : decide (l0_2.length ≤ 1100) = false := decide_eq_false (by omega)
  clear c3
  obtain rfl := Option.some.inj H
  go_enter Tryd.func22, Tryd.ntmps22
  go_wp2_with (first | ((with_reducible refine gate_dst (N := 2) rfl ?_); (try (refine gate_guard (by rfl) ?_; dsimp only)); refine box_event ?hg (N := 2) ?hd (cs := #[.string a0_0, .int .i64 a0_1, .slice A0_2 l0_2.length c0_2]) (t := 31) ?hr ?_; (case hd => rfl); (case hg => rfl); (case hr => first | (go_simp; done) | (go_simp; rfl)); intro gb181 hg w16 hbox hb; have n0_ := ls0 HB hb; have n1_ := Aside0.mk (hbox); have n2_ := Aside0.mk ((by rw [hg]; exact (below_size (lb0 HB)) : w.heap.size ≤ gb181)); have n3_ := Aside0.mk ((by rw [hg]; exact (below_size (lb0 HB)) : w.heap.size ≤ gb181)); clear HB; have HB := n0_; have BK181 := n1_; have GW181 := n2_; have GE181 := n3_; clear n0_ n1_ n2_ n3_; clear hb hbox hg) | ((with_reducible refine gate_dst (N := 3) rfl ?_); (try (refine gate_guard (by rfl) ?_; dsimp only)); refine box_event ?hg (N := 3) ?hd (cs := #[.slice A1_0 l1_0.length c1_0]) (t := 24) ?hr ?_; (case hd => rfl); (case hg => rfl); (case hr => first | (go_simp; done) | (go_simp; rfl)); intro gb182 hg w17 hbox hb; have n0_ := kl BK181 hb; have n1_ := ls1 HB GE181 hb; have n2_ := Aside0.mk (hbox); have n3_ := Aside0.mk ((by rw [hg]; exact (below_size (lb1 HB GE181)) : w.heap.size ≤ gb182)); have n4_ := Aside0.mk ((by rw [hg]; exact (below_size (lb1 HB GE181)) : w.heap.size ≤ gb182)); have n5_ := kn BK181 hg; have n6_ := km BK181 hg; clear BK181; clear HB; have BK181 := n0_; have HB := n1_; have BK182 := n2_; have GW182 := n3_; have GE182 := n4_; have NB181_182 := n5_; have NB182_181 := n6_; clear n0_ n1_ n2_ n3_ n4_ n5_ n6_; clear hb hbox hg; have hnb18 := NB181_182.out; have hnc18 := NB182_181.out; have hcz19_0 := bc BK181 0; have hcz19_1 := bc BK181 1; have hcz19_2 := bc BK181 2; have hfz19_0 := blk_frozen BK181.out 0; have hfz19_1 := blk_frozen BK181.out 1; have hfz19_2 := blk_frozen BK181.out 2))
  go_ret
  exact ⟨by first | rfl | (simp [errW_none, errW_some] <;> rfl) | (simp [*, errW_none, errW_some] <;> rfl), lb2 HB GE181 GE182⟩

end Go.Proofs.YtldpacphackdjaaDoor.Print
/- That the call of function 25 (crossbarref28_Find) answers what the Lean function of the same name answers, at every input at which that one answers. (Written by a program of the session, which drives the kit's printer.) -/
namespace Go.Proofs.YtldpacphackdjaaDoor.Print
open Go.RowKit Go.Proofs.YtldpacphackdjaaDoorW.PrintWords Go.Proofs.YtldpacphackdjaaDoorW.PrintLast Go.Proofs.YtldpacphackdjaaDoorW.PrintMore
attribute [local go_sem] max2_int min2_int max_two min_two max_three min_three max_four min_four   -- for this text's walks alone
set_option linter.unusedVariables false
set_option linter.unusedSimpArgs false

/-! ### crossbarref28_Find: function 25 -/
def crossbarref28_Find.l0 : Nat → Int → Int → ByteArray → Int → List (S54) → Option (Int)
 | 0, _, _, _, _, _ => none
 | k + 1, x1, x5, x185000, x185001, x185002 => if x5 < (x185002.length : Int) then (if 0 ≤ x5 then (if ((rd_T54 x185002 x5).f0) = x1 then (some x5) else (crossbarref28_Find.l0 k x1 (wrap64 (x5 + 1)) x185000 x185001 x185002)) else (none)) else (some (-1))
def crossbarref28_Find.f (k : Nat) (a0_0 : ByteArray) (a0_1 : Int) (l0_2 : List (S54)) (a1 : Int) : Option (Int) := crossbarref28_Find.l0 k a1 0 a0_0 a0_1 l0_2
set_option maxHeartbeats 8000000 in
set_option maxRecDepth 100000 in
theorem crossbarref28_Find.calls (k : Nat) (a0_0 : ByteArray) (a0_1 : Int) (A0_2 : Option Addr) (c0_2 : Nat) (l0_2 : List (S54)) (a1 : Int) (r : Int) (w : World) (hr0_2 : Kd.C k54 w A0_2 l0_2.length l0_2) (hc0_2 : l0_2.length ≤ c0_2) (h : crossbarref28_Find.f k a0_0 a0_1 l0_2 a1 = some r) :
  Calls Tryd.prog 25 #[.agg #[.string a0_0, .int .i64 a0_1, .slice A0_2 l0_2.length c0_2], .int .i64 a1] w fun e w' => e = .returned (.int .i64 r) ∧ Below w.heap.size w w' := by
 have hu31 := Tryd.underlying31
 have HR0_2 := Aside0.mk hr0_2
 have HC0_2 := Aside0.mk hc0_2
 clear hr0_2 hc0_2
 have HB := Aside0.mk (Below.refl w.heap.size w)
 have H : (crossbarref28_Find.l0 k a1 0 a0_0 a0_1 l0_2) = some r := h
 clear h
 have H' := Aside0.mk H
 clear H
 go_enter Tryd.func25, Tryd.ntmps25
 go_wp2_with (first | ((with_reducible refine gate_dst (N := 2) rfl ?_); refine box_event ?hg (N := 2) ?hd (cs := #[.string a0_0, .int .i64 a0_1, .slice A0_2 l0_2.length c0_2]) (t := 31) ?hr ?_; (case hd => rfl); (case hg => rfl); (case hr => first | (go_simp; done) | (go_simp; rfl)); intro gb184 hg w3 hbox hb; have n0_ := ls0 HB hb; have n1_ := Aside0.mk (hbox); have n2_ := Aside0.mk ((by rw [hg]; exact (below_size (lb0 HB)) : w.heap.size ≤ gb184)); have n3_ := Aside0.mk ((by rw [hg]; exact (below_size (lb0 HB)) : w.heap.size ≤ gb184)); clear HB; have HB := n0_; have BK184 := n1_; have GW184 := n2_; have GE184 := n3_; clear n0_ n1_ n2_ n3_; clear hb hbox hg))
 go_loopg [5] k (fun kq v5 w' => ∃ (x5_1 : Int), v5 = .int .i64 x5_1 ∧ Aside0 (crossbarref28_Find.l0 kq a1 x5_1 a0_0 a0_1 l0_2 = some r) ∧ Aside0 (kq ≤ k) ∧ Aside0 (w'.heap[gb184]? = some (.cells #[.string a0_0, .int .i64 a0_1, (.slice A0_2 l0_2.length c0_2)] 31 (0, 0))) ∧ Aside0 (Below w.heap.size w w'))
 case atStart => exact ⟨(0), (by first | rfl | (simp; done) | (simp [*]; done)), H', ⟨Nat.le_refl _⟩, ⟨kb BK184⟩, ⟨lb1 HB GE184⟩⟩
 case round =>
  clear H'
  try clear c2; try clear p2
  obtain ⟨x5_1, rfl, HA, HK1, BK184, HB⟩ := hrel
  cases gk with
  | zero => exact absurd HA.out (by simp [crossbarref28_Find.l0])
  | succ k1 =>
   have H := HA.out
   clear HA
   simp only [crossbarref28_Find.l0] at H
   by_cases c4 : x5_1 < (l0_2.length : Int)
   ·rw [if_pos c4] at H
    have c4b0 : decide (x5_1 < (l0_2.length : Int)) = true := decide_eq_true c4
    clear c4
    by_cases c5 : 0 ≤ x5_1
    ·rw [if_pos c5] at H
     have c5b0 : decide (0 ≤ x5_1) = true := decide_eq_true c5
     clear c5
     by_cases c6 : ((rd_T54 l0_2 x5_1).f0) = a1
     ·rw [if_pos c6] at H
      have c6b0 : (((rd_T54 l0_2 x5_1).f0) == a1) = true := beq_iff_eq.mpr c6
      have c6b1 : (((rd_T54 l0_2 x5_1).f0) != a1) = false := bne_eq_false_iff_eq.mpr c6
      clear c6
      obtain rfl := Option.some.inj H
      have hcz7_0 := bc BK184 0
      have hcz7_1 := bc BK184 1
      have hcz7_2 := bc BK184 2
      have hfz7_0 := blk_frozen BK184.out 0
      have hfz7_1 := blk_frozen BK184.out 1
      have hfz7_2 := blk_frozen BK184.out 2
      have p185 : 0 ≤ (x5_1 : Int) := of_decide_eq_true (by first | (with_reducible assumption) | assumption)
      have q185 : x5_1 < (l0_2.length : Int) := of_decide_eq_true (by first | (with_reducible assumption) | assumption)
      obtain ⟨ad185, e185, hx185_0, hx185_1, hx185_2⟩ := at_T54 HR0_2.out x5_1 p185 q185
      cases e185
      replace hx185_0 := (HB.out.cell (World.block_lt_of_cell? w _ hx185_0)).trans hx185_0
      replace hx185_1 := (HB.out.cell (World.block_lt_of_cell? w _ hx185_1)).trans hx185_1
      replace hx185_2 := (HB.out.cell (World.block_lt_of_cell? w _ hx185_2)).trans hx185_2
      replace p185 := eq_true p185
      replace q185 := eq_true q185
      go_wp2
      go_ret
      exact ⟨by first | rfl | (simp [errW_none, errW_some] <;> rfl) | (simp [*, errW_none, errW_some] <;> rfl), lb1 HB GE184⟩
     ·rw [if_neg c6] at H
      have c6b0 : (((rd_T54 l0_2 x5_1).f0) == a1) = false := beq_eq_false_iff_ne.mpr c6
      have c6b1 : (((rd_T54 l0_2 x5_1).f0) != a1) = true := bne_iff_ne.mpr c6
      have H' := Aside0.mk H
      clear H
      have hcz8_0 := bc BK184 0
      have hcz8_1 := bc BK184 1
      have hcz8_2 := bc BK184 2
      have hfz8_0 := blk_frozen BK184.out 0
      have hfz8_1 := blk_frozen BK184.out 1
      have hfz8_2 := blk_frozen BK184.out 2
      have p185 : 0 ≤ (x5_1 : Int) := of_decide_eq_true (by first | (with_reducible assumption) | assumption)
      have q185 : x5_1 < (l0_2.length : Int) := of_decide_eq_true (by first | (with_reducible assumption) | assumption)
      obtain ⟨ad185, e185, hx185_0, hx185_1, hx185_2⟩ := at_T54 HR0_2.out x5_1 p185 q185
      cases e185
      replace hx185_0 := (HB.out.cell (World.block_lt_of_cell? w _ hx185_0)).trans hx185_0
      replace hx185_1 := (HB.out.cell (World.block_lt_of_cell? w _ hx185_1)).trans hx185_1
      replace hx185_2 := (HB.out.cell (World.block_lt_of_cell? w _ hx185_2)).trans hx185_2
      replace p185 := eq_true p185
      replace q185 := eq_true q185
      go_wp2
      go_roundg k1
      case measure => have := HK1.out; omega
      case rel => exact ⟨(wrap64 (x5_1 + 1)), (by first | rfl | (simp; done) | (simp [*]; done)), H', ⟨by have := HK1.out; omega⟩, ⟨kb BK184⟩, ⟨lb1 HB GE184⟩⟩
    ·rw [if_neg c5] at H
     exact absurd H (by simp)
   ·rw [if_neg c4] at H
    have c4b0 : decide (x5_1 < (l0_2.length : Int)) = false := decide_eq_false c4
    clear c4
    obtain rfl := Option.some.inj H
    have hcz9_0 := bc BK184 0
    have hcz9_1 := bc BK184 1
    have hcz9_2 := bc BK184 2
    have hfz9_0 := blk_frozen BK184.out 0
    have hfz9_1 := blk_frozen BK184.out 1
    have hfz9_2 := blk_frozen BK184.out 2
    go_wp2
    go_ret
    exact ⟨by first | rfl | (simp [errW_none, errW_some] <;> rfl) | (simp [*, errW_none, errW_some] <;> rfl), lb1 HB GE184⟩

end Go.Proofs.YtldpacphackdjaaDoor.Print
/- That the call of function 24 (crossbarref28_Same) answers what the Lean function of the same name answers, at every input at which that one answers. (Written by a program of the session, which drives the kit's printer.) -/
namespace Go.Proofs.YtldpacphackdjaaDoor.Print
open Go.RowKit Go.Proofs.YtldpacphackdjaaDoorW.PrintWords Go.Proofs.YtldpacphackdjaaDoorW.PrintLast Go.Proofs.YtldpacphackdjaaDoorW.PrintMore
attribute [local go_sem] max2_int min2_int max_two min_two max_three min_three max_four min_four   -- for this text's walks alone
set_option linter.unusedVariables false
set_option linter.unusedSimpArgs false

attribute [local go_sem high] eqA54
/-! ### crossbarref28_Same: function 24 -/
mutual
def crossbarref28_Same.j0 : Nat → Bool → ByteArray → Int → List (S54) → ByteArray → Int → List (S54) → Option (Bool)
 | 0, _, _, _, _, _, _, _ => none
 | k + 1, x26, x253000, x253001, x253002, x254000, x254001, x254002 => if x26 = true then (some false) else (crossbarref28_Same.l0 k 0 x253000 x253001 x253002 x254000 x254001 x254002)
def crossbarref28_Same.l0 : Nat → Int → ByteArray → Int → List (S54) → ByteArray → Int → List (S54) → Option (Bool)
 | 0, _, _, _, _, _, _, _ => none
 | k + 1, x5, x253000, x253001, x253002, x254000, x254001, x254002 => if x5 < (x253002.length : Int) then (if 0 ≤ x5 then (if x5 < (x254002.length : Int) then (if (!(((rd_T54 x253002 x5).f0) == ((rd_T54 x254002 x5).f0)) || (!(((rd_T54 x253002 x5).f1) == ((rd_T54 x254002 x5).f1)) || (!(((rd_T54 x253002 x5).f2) == ((rd_T54 x254002 x5).f2))))) = true then (some false) else (crossbarref28_Same.l0 k (wrap64 (x5 + 1)) x253000 x253001 x253002 x254000 x254001 x254002)) else (none)) else (none)) else (some true)
end
def crossbarref28_Same.f (k : Nat) (a0_0 : ByteArray) (a0_1 : Int) (l0_2 : List (S54)) (a1_0 : ByteArray) (a1_1 : Int) (l1_2 : List (S54)) : Option (Bool) := if a0_0.toList = a1_0.toList then (if a0_1 = a1_1 then (crossbarref28_Same.j0 k ((l0_2.length : Int) != (l1_2.length : Int)) a0_0 a0_1 l0_2 a1_0 a1_1 l1_2) else (crossbarref28_Same.j0 k true a0_0 a0_1 l0_2 a1_0 a1_1 l1_2)) else (crossbarref28_Same.j0 k true a0_0 a0_1 l0_2 a1_0 a1_1 l1_2)
set_option maxHeartbeats 8000000 in
set_option maxRecDepth 100000 in
theorem crossbarref28_Same.calls (k : Nat) (a0_0 : ByteArray) (a0_1 : Int) (A0_2 : Option Addr) (c0_2 : Nat) (l0_2 : List (S54)) (a1_0 : ByteArray) (a1_1 : Int) (A1_2 : Option Addr) (c1_2 : Nat) (l1_2 : List (S54)) (r : Bool) (w : World) (hr0_2 : Kd.C k54 w A0_2 l0_2.length l0_2) (hc0_2 : l0_2.length ≤ c0_2) (hr1_2 : Kd.C k54 w A1_2 l1_2.length l1_2) (hc1_2 : l1_2.length ≤ c1_2) (h : crossbarref28_Same.f k a0_0 a0_1 l0_2 a1_0 a1_1 l1_2 = some r) :
  Calls Tryd.prog 24 #[.agg #[.string a0_0, .int .i64 a0_1, .slice A0_2 l0_2.length c0_2], .agg #[.string a1_0, .int .i64 a1_1, .slice A1_2 l1_2.length c1_2]] w fun e w' => e = .returned (.bool r) ∧ Below w.heap.size w w' := by
 have hu31 := Tryd.underlying31
 have hu54 := Tryd.underlying54
 have HR0_2 := Aside0.mk hr0_2
 have HC0_2 := Aside0.mk hc0_2
 clear hr0_2 hc0_2
 have HR1_2 := Aside0.mk hr1_2
 have HC1_2 := Aside0.mk hc1_2
 clear hr1_2 hc1_2
 have HB := Aside0.mk (Below.refl w.heap.size w)
 have H : (if a0_0.toList = a1_0.toList then (if a0_1 = a1_1 then (crossbarref28_Same.j0 k ((l0_2.length : Int) != (l1_2.length : Int)) a0_0 a0_1 l0_2 a1_0 a1_1 l1_2) else (crossbarref28_Same.j0 k true a0_0 a0_1 l0_2 a1_0 a1_1 l1_2)) else (crossbarref28_Same.j0 k true a0_0 a0_1 l0_2 a1_0 a1_1 l1_2)) = some r := h
 clear h
 have HC3 := Aside0.mk H
 clear H
 go_enter Tryd.func24, Tryd.ntmps24
 go_upto_region 1 with (first | ((with_reducible refine gate_dst (N := 2) rfl ?_); (try (refine gate_guard (by rfl) ?_; dsimp only)); refine box_event ?hg (N := 2) ?hd (cs := #[.string a0_0, .int .i64 a0_1, .slice A0_2 l0_2.length c0_2]) (t := 31) ?hr ?_; (case hd => rfl); (case hg => rfl); (case hr => first | (go_simp; done) | (go_simp; rfl)); intro gb252 hg w4 hbox hb; have n0_ := ls0 HB hb; have n1_ := Aside0.mk (hbox); have n2_ := Aside0.mk ((by rw [hg]; exact (below_size (lb0 HB)) : w.heap.size ≤ gb252)); have n3_ := Aside0.mk ((by rw [hg]; exact (below_size (lb0 HB)) : w.heap.size ≤ gb252)); clear HB; have HB := n0_; have BK252 := n1_; have GW252 := n2_; have GE252 := n3_; clear n0_ n1_ n2_ n3_; clear hb hbox hg) | ((with_reducible refine gate_dst (N := 3) rfl ?_); (try (refine gate_guard (by rfl) ?_; dsimp only)); refine box_event ?hg (N := 3) ?hd (cs := #[.string a1_0, .int .i64 a1_1, .slice A1_2 l1_2.length c1_2]) (t := 31) ?hr ?_; (case hd => rfl); (case hg => rfl); (case hr => first | (go_simp; done) | (go_simp; rfl)); intro gb253 hg w5 hbox hb; have n0_ := kl BK252 hb; have n1_ := ls1 HB GE252 hb; have n2_ := Aside0.mk (hbox); have n3_ := Aside0.mk ((by rw [hg]; exact (below_size (lb1 HB GE252)) : w.heap.size ≤ gb253)); have n4_ := Aside0.mk ((by rw [hg]; exact (below_size (lb1 HB GE252)) : w.heap.size ≤ gb253)); have n5_ := kn BK252 hg; have n6_ := km BK252 hg; clear BK252; clear HB; have BK252 := n0_; have HB := n1_; have BK253 := n2_; have GW253 := n3_; have GE253 := n4_; have NB252_253 := n5_; have NB253_252 := n6_; clear n0_ n1_ n2_ n3_ n4_ n5_ n6_; clear hb hbox hg))
 repeat (go_quiet (first | ((with_reducible refine gate_dst (N := 2) rfl ?_); (try (refine gate_guard (by rfl) ?_; dsimp only)); refine box_event ?hg (N := 2) ?hd (cs := #[.string a0_0, .int .i64 a0_1, .slice A0_2 l0_2.length c0_2]) (t := 31) ?hr ?_; (case hd => rfl); (case hg => rfl); (case hr => first | (go_simp; done) | (go_simp; rfl)); intro gb252 hg w4 hbox hb; have n0_ := ls0 HB hb; have n1_ := Aside0.mk (hbox); have n2_ := Aside0.mk ((by rw [hg]; exact (below_size (lb0 HB)) : w.heap.size ≤ gb252)); have n3_ := Aside0.mk ((by rw [hg]; exact (below_size (lb0 HB)) : w.heap.size ≤ gb252)); clear HB; have HB := n0_; have BK252 := n1_; have GW252 := n2_; have GE252 := n3_; clear n0_ n1_ n2_ n3_; clear hb hbox hg) | ((with_reducible refine gate_dst (N := 3) rfl ?_); (try (refine gate_guard (by rfl) ?_; dsimp only)); refine box_event ?hg (N := 3) ?hd (cs := #[.string a1_0, .int .i64 a1_1, .slice A1_2 l1_2.length c1_2]) (t := 31) ?hr ?_; (case hd => rfl); (case hg => rfl); (case hr => first | (go_simp; done) | (go_simp; rfl)); intro gb253 hg w5 hbox hb; have n0_ := kl BK252 hb; have n1_ := ls1 HB GE252 hb; have n2_ := Aside0.mk (hbox); have n3_ := Aside0.mk ((by rw [hg]; exact (below_size (lb1 HB GE252)) : w.heap.size ≤ gb253)); have n4_ := Aside0.mk ((by rw [hg]; exact (below_size (lb1 HB GE252)) : w.heap.size ≤ gb253)); have n5_ := kn BK252 hg; have n6_ := km BK252 hg; clear BK252; clear HB; have BK252 := n0_; have HB := n1_; have BK253 := n2_; have GW253 := n3_; have GE253 := n4_; have NB252_253 := n5_; have NB253_252 := n6_; clear n0_ n1_ n2_ n3_ n4_ n5_ n6_; clear hb hbox hg)); go_upto_region 1 with (first | ((with_reducible refine gate_dst (N := 2) rfl ?_); (try (refine gate_guard (by rfl) ?_; dsimp only)); refine box_event ?hg (N := 2) ?hd (cs := #[.string a0_0, .int .i64 a0_1, .slice A0_2 l0_2.length c0_2]) (t := 31) ?hr ?_; (case hd => rfl); (case hg => rfl); (case hr => first | (go_simp; done) | (go_simp; rfl)); intro gb252 hg w4 hbox hb; have n0_ := ls0 HB hb; have n1_ := Aside0.mk (hbox); have n2_ := Aside0.mk ((by rw [hg]; exact (below_size (lb0 HB)) : w.heap.size ≤ gb252)); have n3_ := Aside0.mk ((by rw [hg]; exact (below_size (lb0 HB)) : w.heap.size ≤ gb252)); clear HB; have HB := n0_; have BK252 := n1_; have GW252 := n2_; have GE252 := n3_; clear n0_ n1_ n2_ n3_; clear hb hbox hg) | ((with_reducible refine gate_dst (N := 3) rfl ?_); (try (refine gate_guard (by rfl) ?_; dsimp only)); refine box_event ?hg (N := 3) ?hd (cs := #[.string a1_0, .int .i64 a1_1, .slice A1_2 l1_2.length c1_2]) (t := 31) ?hr ?_; (case hd => rfl); (case hg => rfl); (case hr => first | (go_simp; done) | (go_simp; rfl)); intro gb253 hg w5 hbox hb; have n0_ := kl BK252 hb; have n1_ := ls1 HB GE252 hb; have n2_ := Aside0.mk (hbox); have n3_ := Aside0.mk ((by rw [hg]; exact (below_size (lb1 HB GE252)) : w.heap.size ≤ gb253)); have n4_ := Aside0.mk ((by rw [hg]; exact (below_size (lb1 HB GE252)) : w.heap.size ≤ gb253)); have n5_ := kn BK252 hg; have n6_ := km BK252 hg; clear BK252; clear HB; have BK252 := n0_; have HB := n1_; have BK253 := n2_; have GW253 := n3_; have GE253 := n4_; have NB252_253 := n5_; have NB253_252 := n6_; clear n0_ n1_ n2_ n3_ n4_ n5_ n6_; clear hb hbox hg)))
 (try simp only [Act.put, List.setIfInBounds_toArray, List.set_cons_zero, List.set_cons_succ])
 go_cut [26] (fun v26 wc => ∃ (kq : Nat) (x26_2 : Bool), v26 = .bool x26_2 ∧ Aside0 (crossbarref28_Same.j0 kq x26_2 a0_0 a0_1 l0_2 a1_0 a1_1 l1_2 = some r) ∧ Aside0 (kq ≤ k) ∧ Aside0 (wc.heap[gb252]? = some (.cells #[.string a0_0, .int .i64 a0_1, (.slice A0_2 l0_2.length c0_2)] 31 (0, 0))) ∧ Aside0 (wc.heap[gb253]? = some (.cells #[.string a1_0, .int .i64 a1_1, (.slice A1_2 l1_2.length c1_2)] 31 (0, 0))) ∧ Aside0 (Below w.heap.size w wc))
 case first =>
  have H := HC3.out
  clear HC3
  by_cases c6 : a0_0.toList = a1_0.toList
  ·rw [if_pos c6] at H
   have c6b0 : (a0_0.toList == a1_0.toList) = true := beq_iff_eq.mpr c6
   have c6b1 : (a0_0.toList != a1_0.toList) = false := bne_eq_false_iff_eq.mpr c6
   clear c6
   (first | rw [c6b0] | (simp only [i64_w, i32_w]; rw [c6b0]) | skip)
   by_cases c7 : a0_1 = a1_1
   ·rw [if_pos c7] at H
    have c7b0 : (a0_1 == a1_1) = true := beq_iff_eq.mpr c7
    have c7b1 : (a0_1 != a1_1) = false := bne_eq_false_iff_eq.mpr c7
    clear c7
    have H' := Aside0.mk H
    clear H
    have hnb8 := NB252_253.out
    have hnc8 := NB253_252.out
    have hcz9_0 := bc BK252 0
    have hcz9_1 := bc BK252 1
    have hcz9_2 := bc BK252 2
    have hfz9_0 := blk_frozen BK252.out 0
    have hfz9_1 := blk_frozen BK252.out 1
    have hfz9_2 := blk_frozen BK252.out 2
    have hcz10_0 := bc BK253 0
    have hcz10_1 := bc BK253 1
    have hcz10_2 := bc BK253 2
    have hfz10_0 := blk_frozen BK253.out 0
    have hfz10_1 := blk_frozen BK253.out 1
    have hfz10_2 := blk_frozen BK253.out 2
    go_wp2
    repeat (go_quiet (fail); try go_wp2)
    go_meet
    case rel => exact ⟨_, (((l0_2.length : Int) != (l1_2.length : Int))), (by first | rfl | (simp; done) | (simp [*]; done)), H', ⟨by first | omega | exact Nat.le_refl _⟩, ⟨kb BK252⟩, ⟨kb BK253⟩, ⟨lb2 HB GE252 GE253⟩⟩
   ·rw [if_neg c7] at H
    have c7b0 : (a0_1 == a1_1) = false := beq_eq_false_iff_ne.mpr c7
    have c7b1 : (a0_1 != a1_1) = true := bne_iff_ne.mpr c7
    have H' := Aside0.mk H
    clear H
    have hnb11 := NB252_253.out
    have hnc11 := NB253_252.out
    have hcz12_0 := bc BK252 0
    have hcz12_1 := bc BK252 1
    have hcz12_2 := bc BK252 2
    have hfz12_0 := blk_frozen BK252.out 0
    have hfz12_1 := blk_frozen BK252.out 1
    have hfz12_2 := blk_frozen BK252.out 2
    have hcz13_0 := bc BK253 0
    have hcz13_1 := bc BK253 1
    have hcz13_2 := bc BK253 2
    have hfz13_0 := blk_frozen BK253.out 0
    have hfz13_1 := blk_frozen BK253.out 1
    have hfz13_2 := blk_frozen BK253.out 2
    go_wp2
    repeat (go_quiet (fail); try go_wp2)
    go_meet
    case rel => exact ⟨_, (true), (by first | rfl | (simp; done) | (simp [*]; done)), H', ⟨by first | omega | exact Nat.le_refl _⟩, ⟨kb BK252⟩, ⟨kb BK253⟩, ⟨lb2 HB GE252 GE253⟩⟩
  ·rw [if_neg c6] at H
   have c6b0 : (a0_0.toList == a1_0.toList) = false := beq_eq_false_iff_ne.mpr c6
   have c6b1 : (a0_0.toList != a1_0.toList) = true := bne_iff_ne.mpr c6
   (first | rw [c6b0] | (simp only [i64_w, i32_w]; rw [c6b0]) | skip)
   have H' := Aside0.mk H
   clear H
   have hnb14 := NB252_253.out
   have hnc14 := NB253_252.out
   have hcz15_0 := bc BK252 0
   have hcz15_1 := bc BK252 1
   have hcz15_2 := bc BK252 2
   have hfz15_0 := blk_frozen BK252.out 0
   have hfz15_1 := blk_frozen BK252.out 1
   have hfz15_2 := blk_frozen BK252.out 2
   have hcz16_0 := bc BK253 0
   have hcz16_1 := bc BK253 1
   have hcz16_2 := bc BK253 2
   have hfz16_0 := blk_frozen BK253.out 0
   have hfz16_1 := blk_frozen BK253.out 1
   have hfz16_2 := blk_frozen BK253.out 2
   go_wp2
   repeat (go_quiet (fail); try go_wp2)
   go_meet
   case rel => exact ⟨_, (true), (by first | rfl | (simp; done) | (simp [*]; done)), H', ⟨by first | omega | exact Nat.le_refl _⟩, ⟨kb BK252⟩, ⟨kb BK253⟩, ⟨lb2 HB GE252 GE253⟩⟩
 case rest =>
  clear HC3
  try clear c1; try clear c2; try clear p2; try clear c6; try clear c6b0; try clear c6b1; try clear c7; try clear c7b0; try clear c7b1; try clear c8; try clear c11; try clear c14; try clear hcz10_0; try clear hcz10_1; try clear hcz10_2; try clear hcz12_0; try clear hcz12_1; try clear hcz12_2; try clear hcz13_0; try clear hcz13_1; try clear hcz13_2; try clear hcz15_0; try clear hcz15_1; try clear hcz15_2; try clear hcz16_0; try clear hcz16_1; try clear hcz16_2; try clear hcz9_0; try clear hcz9_1; try clear hcz9_2; try clear hfz10_0; try clear hfz10_1; try clear hfz10_2; try clear hfz12_0; try clear hfz12_1; try clear hfz12_2; try clear hfz13_0; try clear hfz13_1; try clear hfz13_2; try clear hfz15_0; try clear hfz15_1; try clear hfz15_2; try clear hfz16_0; try clear hfz16_1; try clear hfz16_2; try clear hfz9_0; try clear hfz9_1; try clear hfz9_2
  obtain ⟨kq, x26_2, rfl, HA, HJ2, BK252, BK253, HB⟩ := hcut
  cases kq with
  | zero => exact absurd HA.out (by simp [crossbarref28_Same.j0])
  | succ kj2 =>
   have H := HA.out
   clear HA
   simp only [crossbarref28_Same.j0] at H
   by_cases c17 : x26_2 = true
   ·subst c17
    have H1 : (some false) = some r := by rw [if_pos rfl] at H; exact H
    clear H
    have H := H1
    clear H1
    obtain rfl := Option.some.inj H
    go_wp2
    repeat (go_quiet (fail); try go_wp2)
    go_ret
    exact ⟨by first | rfl | (simp [errW_none, errW_some] <;> rfl) | (simp [*, errW_none, errW_some] <;> rfl), lb2 HB GE252 GE253⟩
   ·replace c17 := Bool.eq_false_iff.mpr c17
    subst c17
    have H1 : (crossbarref28_Same.l0 kj2 0 a0_0 a0_1 l0_2 a1_0 a1_1 l1_2) = some r := by rw [if_neg (show ¬ (false = true) by decide)] at H; exact H
    clear H
    have H := H1
    clear H1
    have H' := Aside0.mk H
    clear H
    go_wp2
    repeat (go_quiet (fail); try go_wp2)
    go_loopg [5] kj2 (fun kq v5 w' => ∃ (x5_2 : Int), v5 = .int .i64 x5_2 ∧ Aside0 (crossbarref28_Same.l0 kq x5_2 a0_0 a0_1 l0_2 a1_0 a1_1 l1_2 = some r) ∧ Aside0 (kq ≤ kj2) ∧ Aside0 (w'.heap[gb252]? = some (.cells #[.string a0_0, .int .i64 a0_1, (.slice A0_2 l0_2.length c0_2)] 31 (0, 0))) ∧ Aside0 (w'.heap[gb253]? = some (.cells #[.string a1_0, .int .i64 a1_1, (.slice A1_2 l1_2.length c1_2)] 31 (0, 0))) ∧ Aside0 (Below w.heap.size w w'))
    case atStart => exact ⟨(0), (by first | rfl | (simp; done) | (simp [*]; done)), H', ⟨Nat.le_refl _⟩, ⟨kb BK252⟩, ⟨kb BK253⟩, ⟨lb2 HB GE252 GE253⟩⟩
    case round =>
     clear H'
     try clear c1; try clear c2; try clear p2; try clear c6; try clear c6b0; try clear c6b1; try clear c7; try clear c7b0; try clear c7b1; try clear c8; try clear c11; try clear c14; try clear c17; try clear hcz10_0; try clear hcz10_1; try clear hcz10_2; try clear hcz12_0; try clear hcz12_1; try clear hcz12_2; try clear hcz13_0; try clear hcz13_1; try clear hcz13_2; try clear hcz15_0; try clear hcz15_1; try clear hcz15_2; try clear hcz16_0; try clear hcz16_1; try clear hcz16_2; try clear hcz9_0; try clear hcz9_1; try clear hcz9_2; try clear hfz10_0; try clear hfz10_1; try clear hfz10_2; try clear hfz12_0; try clear hfz12_1; try clear hfz12_2; try clear hfz13_0; try clear hfz13_1; try clear hfz13_2; try clear hfz15_0; try clear hfz15_1; try clear hfz15_2; try clear hfz16_0; try clear hfz16_1; try clear hfz16_2; try clear hfz9_0; try clear hfz9_1; try clear hfz9_2; try clear p2
     obtain ⟨x5_2, rfl, HA, HK2, BK252, BK253, HB⟩ := hrel
     cases gk with
     | zero => exact absurd HA.out (by simp [crossbarref28_Same.l0])
     | succ k2 =>
      have H := HA.out
      clear HA
      simp only [crossbarref28_Same.l0] at H
      by_cases c18 : x5_2 < (l0_2.length : Int)
      ·rw [if_pos c18] at H
       have c18b0 : decide (x5_2 < (l0_2.length : Int)) = true := decide_eq_true c18
       clear c18
       by_cases c19 : 0 ≤ x5_2
       ·rw [if_pos c19] at H
        have c19b0 : decide (0 ≤ x5_2) = true := decide_eq_true c19
        clear c19
        by_cases c20 : x5_2 < (l1_2.length : Int)
        ·rw [if_pos c20] at H
         have c20b0 : decide (x5_2 < (l1_2.length : Int)) = true := decide_eq_true c20
         clear c20
         by_cases c21 : (!(((rd_T54 l0_2 x5_2).f0) == ((rd_T54 l1_2 x5_2).f0)) || (!(((rd_T54 l0_2 x5_2).f1) == ((rd_T54 l1_2 x5_2).f1)) || (!(((rd_T54 l0_2 x5_2).f2) == ((rd_T54 l1_2 x5_2).f2))))) = true
         ·rw [if_pos c21] at H
          have c21b0 : (!(((rd_T54 l0_2 x5_2).f0) == ((rd_T54 l1_2 x5_2).f0)) || (!(((rd_T54 l0_2 x5_2).f1) == ((rd_T54 l1_2 x5_2).f1)) || (!(((rd_T54 l0_2 x5_2).f2) == ((rd_T54 l1_2 x5_2).f2))))) = true := c21
          clear c21
          obtain rfl := Option.some.inj H
          have hnb22 := NB252_253.out
          have hnc22 := NB253_252.out
          have hcz23_0 := bc BK252 0
          have hcz23_1 := bc BK252 1
          have hcz23_2 := bc BK252 2
          have hfz23_0 := blk_frozen BK252.out 0
          have hfz23_1 := blk_frozen BK252.out 1
          have hfz23_2 := blk_frozen BK252.out 2
          have p254 : 0 ≤ (x5_2 : Int) := of_decide_eq_true (by first | (with_reducible assumption) | assumption)
          have q254 : x5_2 < (l0_2.length : Int) := of_decide_eq_true (by first | (with_reducible assumption) | assumption)
          obtain ⟨ad254, e254, hx254_0, hx254_1, hx254_2⟩ := at_T54 HR0_2.out x5_2 p254 q254
          cases e254
          replace hx254_0 := (HB.out.cell (World.block_lt_of_cell? w _ hx254_0)).trans hx254_0
          replace hx254_1 := (HB.out.cell (World.block_lt_of_cell? w _ hx254_1)).trans hx254_1
          replace hx254_2 := (HB.out.cell (World.block_lt_of_cell? w _ hx254_2)).trans hx254_2
          replace p254 := eq_true p254
          replace q254 := eq_true q254
          have hcz24_0 := bc BK253 0
          have hcz24_1 := bc BK253 1
          have hcz24_2 := bc BK253 2
          have hfz24_0 := blk_frozen BK253.out 0
          have hfz24_1 := blk_frozen BK253.out 1
          have hfz24_2 := blk_frozen BK253.out 2
          have p255 : 0 ≤ (x5_2 : Int) := of_decide_eq_true (by first | (with_reducible assumption) | assumption)
          have q255 : x5_2 < (l1_2.length : Int) := of_decide_eq_true (by first | (with_reducible assumption) | assumption)
          obtain ⟨ad255, e255, hx255_0, hx255_1, hx255_2⟩ := at_T54 HR1_2.out x5_2 p255 q255
          cases e255
          replace hx255_0 := (HB.out.cell (World.block_lt_of_cell? w _ hx255_0)).trans hx255_0
          replace hx255_1 := (HB.out.cell (World.block_lt_of_cell? w _ hx255_1)).trans hx255_1
          replace hx255_2 := (HB.out.cell (World.block_lt_of_cell? w _ hx255_2)).trans hx255_2
          replace p255 := eq_true p255
          replace q255 := eq_true q255
          go_wp2
          repeat (go_quiet (fail); try go_wp2)
          go_ret
          exact ⟨by first | rfl | (simp [errW_none, errW_some] <;> rfl) | (simp [*, errW_none, errW_some] <;> rfl), lb2 HB GE252 GE253⟩
         ·rw [if_neg c21] at H
          have c21b0 : (!(((rd_T54 l0_2 x5_2).f0) == ((rd_T54 l1_2 x5_2).f0)) || (!(((rd_T54 l0_2 x5_2).f1) == ((rd_T54 l1_2 x5_2).f1)) || (!(((rd_T54 l0_2 x5_2).f2) == ((rd_T54 l1_2 x5_2).f2))))) = false := by simpa using c21
          clear c21
          have H' := Aside0.mk H
          clear H
          have hnb25 := NB252_253.out
          have hnc25 := NB253_252.out
          have hcz26_0 := bc BK252 0
          have hcz26_1 := bc BK252 1
          have hcz26_2 := bc BK252 2
          have hfz26_0 := blk_frozen BK252.out 0
          have hfz26_1 := blk_frozen BK252.out 1
          have hfz26_2 := blk_frozen BK252.out 2
          have p254 : 0 ≤ (x5_2 : Int) := of_decide_eq_true (by first | (with_reducible assumption) | assumption)
          have q254 : x5_2 < (l0_2.length : Int) := of_decide_eq_true (by first | (with_reducible assumption) | assumption)
          obtain ⟨ad254, e254, hx254_0, hx254_1, hx254_2⟩ := at_T54 HR0_2.out x5_2 p254 q254
          cases e254
          replace hx254_0 := (HB.out.cell (World.block_lt_of_cell? w _ hx254_0)).trans hx254_0
          replace hx254_1 := (HB.out.cell (World.block_lt_of_cell? w _ hx254_1)).trans hx254_1
          replace hx254_2 := (HB.out.cell (World.block_lt_of_cell? w _ hx254_2)).trans hx254_2
          replace p254 := eq_true p254
          replace q254 := eq_true q254
          have hcz27_0 := bc BK253 0
          have hcz27_1 := bc BK253 1
          have hcz27_2 := bc BK253 2
          have hfz27_0 := blk_frozen BK253.out 0
          have hfz27_1 := blk_frozen BK253.out 1
          have hfz27_2 := blk_frozen BK253.out 2
          have p255 : 0 ≤ (x5_2 : Int) := of_decide_eq_true (by first | (with_reducible assumption) | assumption)
          have q255 : x5_2 < (l1_2.length : Int) := of_decide_eq_true (by first | (with_reducible assumption) | assumption)
          obtain ⟨ad255, e255, hx255_0, hx255_1, hx255_2⟩ := at_T54 HR1_2.out x5_2 p255 q255
          cases e255
          replace hx255_0 := (HB.out.cell (World.block_lt_of_cell? w _ hx255_0)).trans hx255_0
          replace hx255_1 := (HB.out.cell (World.block_lt_of_cell? w _ hx255_1)).trans hx255_1
          replace hx255_2 := (HB.out.cell (World.block_lt_of_cell? w _ hx255_2)).trans hx255_2
          replace p255 := eq_true p255
          replace q255 := eq_true q255
          go_wp2
          repeat (go_quiet (fail); try go_wp2)
          go_roundg k2
          case measure => have := HJ2.out; have := HK2.out; omega
          case rel => exact ⟨(wrap64 (x5_2 + 1)), (by first | rfl | (simp; done) | (simp [*]; done)), H', ⟨by have := HJ2.out; have := HK2.out; omega⟩, ⟨kb BK252⟩, ⟨kb BK253⟩, ⟨lb2 HB GE252 GE253⟩⟩
        ·rw [if_neg c20] at H
         exact absurd H (by simp)
       ·rw [if_neg c19] at H
        exact absurd H (by simp)
      ·rw [if_neg c18] at H
       have c18b0 : decide (x5_2 < (l0_2.length : Int)) = false := decide_eq_false c18
       clear c18
       obtain rfl := Option.some.inj H
       have hnb28 := NB252_253.out
       have hnc28 := NB253_252.out
       have hcz29_0 := bc BK252 0
       have hcz29_1 := bc BK252 1
       have hcz29_2 := bc BK252 2
       have hfz29_0 := blk_frozen BK252.out 0
       have hfz29_1 := blk_frozen BK252.out 1
       have hfz29_2 := blk_frozen BK252.out 2
       go_wp2
       repeat (go_quiet (fail); try go_wp2)
       go_ret
       exact ⟨by first | rfl | (simp [errW_none, errW_some] <;> rfl) | (simp [*, errW_none, errW_some] <;> rfl), lb2 HB GE252 GE253⟩

end Go.Proofs.YtldpacphackdjaaDoor.Print
/- Plain facts on lists of holds: sorted by call, where a call stands, what Find, Few and Same answer; a hold taken out, put in, replaced. Conditions: enough rounds; lists no longer than a million. -/
namespace Go.Proofs.YtldpacphackdjaaDoor.Print
open Go.RowKit Go.Proofs.YtldpacphackdjaaDoorW.PrintWords Go.Proofs.YtldpacphackdjaaDoorW.PrintLast Go.Proofs.YtldpacphackdjaaDoorW.PrintMore
set_option linter.unusedVariables false
set_option linter.unusedSimpArgs false

theorem few28_is (s : ByteArray) (b : Int) (l : List S54) (tl : List S70) : crossbarref28_Few.f s b l tl = some (decide (l.length ≤ 1100 ∧ s.size ≤ 100 ∧ tl.length ≤ 100)) := by
  unfold crossbarref28_Few.f crossbarref26_Few.f
  by_cases h1 : l.length ≤ 1100
  · rw [if_pos (by omega)]
    by_cases h2 : s.size ≤ 100
    · rw [if_pos (by omega)]
      by_cases h3 : tl.length ≤ 100
      · rw [decide_eq_true (by omega : (tl.length : Int) ≤ 100), decide_eq_true (by omega)]; rfl
      · rw [decide_eq_false (by omega : ¬ (tl.length : Int) ≤ 100), decide_eq_false (by omega)]; rfl
    · rw [if_neg (by omega), decide_eq_false (by omega)]
  · rw [if_neg (by omega), decide_eq_false (by omega)]

/-- What Find answers. -/
def FindIs (ref : Int) (l : List S54) (r : Int) : Prop := (r = -1 ∧ ∀ i : Nat, i < l.length → (rd_T54 l (i : Int)).f0 ≠ ref) ∨ ∃ i : Nat, r = i ∧ i < l.length ∧ (rd_T54 l (i : Int)).f0 = ref
theorem find_l0 (ref : Int) (s : ByteArray) (b : Int) (l : List S54) (hl : l.length ≤ 1000000) : ∀ (d j k : Nat), l.length - j = d → d + 1 ≤ k → (∀ i : Nat, i < j → i < l.length → (rd_T54 l (i : Int)).f0 ≠ ref) → ∃ r, crossbarref28_Find.l0 k ref (j : Int) s b l = some r ∧ FindIs ref l r := by
  intro d
  induction d with
  | zero =>
    intro j k hd hk hn
    obtain ⟨k, rfl⟩ : ∃ i, k = i + 1 := ⟨k - 1, by omega⟩
    simp only [crossbarref28_Find.l0]
    rw [if_neg (by omega)]
    exact ⟨-1, rfl, .inl ⟨rfl, fun i hi => hn i (by omega) hi⟩⟩
  | succ d ih =>
    intro j k hd hk hn
    obtain ⟨k, rfl⟩ : ∃ i, k = i + 1 := ⟨k - 1, by omega⟩
    have hj : j < l.length := by omega
    simp only [crossbarref28_Find.l0]
    rw [if_pos (by omega), if_pos (by omega)]
    by_cases h : (rd_T54 l (j : Int)).f0 = ref
    · rw [if_pos h]
      exact ⟨_, rfl, .inr ⟨j, rfl, hj, h⟩⟩
    · rw [if_neg h, pw1 (by omega)]
      refine ih (j + 1) k (by omega) (by omega) (fun i hi hil => ?_)
      by_cases e : i = j
      · subst e; exact h
      · exact hn i (by omega) hil
theorem find_is (ref : Int) (s : ByteArray) (b : Int) (l : List S54) (hl : l.length ≤ 1000000) (k : Nat) (hk : l.length + 1 ≤ k) : ∃ r, crossbarref28_Find.f k s b l ref = some r ∧ FindIs ref l r := by
  unfold crossbarref28_Find.f
  exact find_l0 ref s b l hl l.length 0 k (by omega) (by omega) (fun i hi => by omega)

theorem hFrom_le {p q : Int} (h : q ≤ p) : ∀ {l : List S54}, hFrom p l = true → hFrom q l = true
  | [], _ => rfl
  | a :: t, h2 => by
    simp only [hFrom, Bool.and_eq_true] at h2 ⊢
    refine ⟨?_, h2.2⟩
    have := h2.1
    unfold holdB at this ⊢
    simp only [Bool.and_eq_true, decide_eq_true_eq] at this ⊢
    omega
/-- The last call of a list, or p. -/
def lastF : Int → List S54 → Int
  | p, [] => p
  | _, h :: t => lastF h.f0 t
theorem hFrom_append : ∀ (A B : List S54) (p : Int), hFrom p (A ++ B) = (hFrom p A && hFrom (lastF p A) B)
  | [], B, p => by simp [hFrom, lastF]
  | a :: t, B, p => by simp only [List.cons_append, hFrom, lastF, hFrom_append t B, Bool.and_assoc]
theorem holdB_iff (p : Int) (z : S54) : holdB p z = true ↔ ((1 ≤ z.f0 ∧ z.f0 ≤ 1099511627776) ∧ p < z.f0 ∧ (0 ≤ z.f1 ∧ z.f1 ≤ 1099511627776) ∧ (0 ≤ z.f2 ∧ z.f2 ≤ 1099511627776)) := by
  unfold holdB
  simp only [Bool.and_eq_true, decide_eq_true_eq]
  omega
theorem lastF_lt : ∀ (A : List S54) (p ref : Int), p < ref → (∀ x ∈ A, x.f0 < ref) → lastF p A < ref
  | [], p, ref, h, _ => h
  | a :: t, p, ref, h, hx => lastF_lt t a.f0 ref (hx a (by simp)) (fun x hx2 => hx x (by simp [hx2]))
theorem split_at (l : List S54) (i : Nat) (h : i < l.length) : l = l.take i ++ rd_T54 l (i : Int) :: l.drop (i + 1) := by
  rw [← dropH_at l i h, List.take_append_drop]
theorem hFrom_split {p : Int} {l : List S54} (h : hFrom p l = true) (i : Nat) (hi : i < l.length) : hFrom p (l.take i) = true ∧ holdB (lastF p (l.take i)) (rd_T54 l (i : Int)) = true ∧ hFrom (rd_T54 l (i : Int)).f0 (l.drop (i + 1)) = true := by
  have e := split_at l i hi
  generalize hA : l.take i = A at *
  generalize hB : l.drop (i + 1) = B at *
  generalize hz : rd_T54 l (i : Int) = z at *
  rw [e, hFrom_append, Bool.and_eq_true] at h
  simp only [hFrom, Bool.and_eq_true] at h
  exact ⟨h.1, h.2.1, h.2.2⟩
theorem hFrom_lt {p : Int} {l : List S54} (h : hFrom p l = true) (i j : Nat) (hij : i < j) (hj : j < l.length) : (rd_T54 l (i : Int)).f0 < (rd_T54 l (j : Int)).f0 := by
  refine hFrom_above _ _ (hFrom_split h i (by omega)).2.2 _ ?_
  rw [rdH_is l j hj]
  have e : (l.drop (i + 1))[j - (i + 1)]? = some l[j] := by
    rw [List.getElem?_drop, show i + 1 + (j - (i + 1)) = j by omega, List.getElem?_eq_getElem hj]
  exact List.mem_of_getElem? e
theorem found_iff {p : Int} {l : List S54} (h : hFrom p l = true) (ref : Int) : foundH ref l = true ↔ ∃ i : Nat, i < l.length ∧ (rd_T54 l (i : Int)).f0 = ref := by
  constructor
  · intro hf
    unfold foundH at hf
    simp only [Bool.and_eq_true, decide_eq_true_eq] at hf
    exact ⟨_, hf.1, hf.2⟩
  · rintro ⟨i, hi, e⟩
    have hpl : placeH ref l ≤ i := by
      have := mt (placeH_at ref l p h i hi).2 (by omega)
      omega
    have : placeH ref l = i := by
      refine Nat.le_antisymm hpl (Nat.not_lt.1 fun hlt => ?_)
      have h1 := hFrom_lt h _ i hlt hi
      have h2 := (placeH_at ref l p h (placeH ref l) (by omega)).1 (by omega)
      omega
    unfold foundH
    rw [this]
    simp [hi, e]
theorem place_of {p : Int} {l : List S54} (h : hFrom p l = true) (ref : Int) (i : Nat) (hi : i < l.length) (e : (rd_T54 l (i : Int)).f0 = ref) : placeH ref l = i := by
  have hpl : placeH ref l ≤ i := by
    have := mt (placeH_at ref l p h i hi).2 (by omega)
    omega
  refine Nat.le_antisymm hpl (Nat.not_lt.1 fun hlt => ?_)
  have h1 := hFrom_lt h _ i hlt hi
  have h2 := (placeH_at ref l p h (placeH ref l) (by omega)).1 (by omega)
  omega
theorem findIs_sorted {p : Int} {l : List S54} (h : hFrom p l = true) {ref r : Int} (hr : FindIs ref l r) : r = if foundH ref l = true then (placeH ref l : Int) else -1 := by
  rcases hr with ⟨rfl, hn⟩ | ⟨i, rfl, hi, e⟩
  · rw [if_neg (fun hf => by obtain ⟨i, hi, e⟩ := (found_iff h ref).1 hf; exact hn i hi e)]
  · rw [if_pos ((found_iff h ref).2 ⟨i, hi, e⟩), place_of h ref i hi e]
theorem find_sorted {p : Int} {l : List S54} (h : hFrom p l = true) (hl : l.length ≤ 1000000) (ref : Int) (s : ByteArray) (b : Int) (k : Nat) (hk : l.length + 1 ≤ k) : crossbarref28_Find.f k s b l ref = some (if foundH ref l = true then (placeH ref l : Int) else -1) := by
  obtain ⟨r, e, hr⟩ := find_is ref s b l hl k hk
  rw [e, findIs_sorted h hr]

theorem sumU_append (A B : List S54) : sumU (A ++ B) = sumU A + sumU B := by unfold sumU; simp
theorem sumU_cons (a : S54) (B : List S54) : sumU (a :: B) = a.f1 + sumU B := by unfold sumU; simp
theorem sumU_split (l : List S54) (i : Nat) (hi : i < l.length) : sumU l = sumU (l.take i) + ((rd_T54 l (i : Int)).f1 + sumU (l.drop (i + 1))) := by
  have e := congrArg sumU (split_at l i hi)
  rw [sumU_append, sumU_cons] at e
  exact e
theorem sumU_drop (l : List S54) (i : Nat) (hi : i < l.length) : sumU (dropH i l) = sumU l - (rd_T54 l (i : Int)).f1 := by
  unfold dropH
  rw [sumU_append, sumU_split l i hi]
  omega
theorem sumU_set (l : List S54) (i : Nat) (hi : i < l.length) (x : S54) : sumU (l.set i x) = sumU l - (rd_T54 l (i : Int)).f1 + x.f1 := by
  rw [List.set_eq_take_append_cons_drop, if_pos hi, sumU_append, sumU_cons, sumU_split l i hi]
  omega
theorem sumU_put (l : List S54) (i : Nat) (x : S54) : sumU (l.take i ++ x :: l.drop i) = sumU l + x.f1 := by
  have e := congrArg sumU (List.take_append_drop i l)
  rw [sumU_append] at e
  rw [sumU_append, sumU_cons]
  omega
theorem hFrom_drop {p : Int} {l : List S54} (h : hFrom p l = true) (i : Nat) (hi : i < l.length) : hFrom p (dropH i l) = true := by
  obtain ⟨h1, h2, h3⟩ := hFrom_split h i hi
  unfold dropH
  rw [hFrom_append, h1, Bool.true_and]
  exact hFrom_le (by have := ((holdB_iff _ _).1 h2).2.1; omega) h3
theorem hFrom_set {p : Int} {l : List S54} (h : hFrom p l = true) (i : Nat) (hi : i < l.length) (x : S54) (h0 : x.f0 = (rd_T54 l (i : Int)).f0) (h1 : 0 ≤ x.f1 ∧ x.f1 ≤ 1099511627776) (h2 : 0 ≤ x.f2 ∧ x.f2 ≤ 1099511627776) : hFrom p (l.set i x) = true := by
  obtain ⟨g1, g2, g3⟩ := hFrom_split h i hi
  rw [List.set_eq_take_append_cons_drop, if_pos hi, hFrom_append, g1, Bool.true_and]
  simp only [hFrom, Bool.and_eq_true]
  have g4 := (holdB_iff _ _).1 g2
  refine ⟨(holdB_iff _ _).2 ⟨by omega, by omega, h1, h2⟩, ?_⟩
  rw [h0]
  exact g3
theorem take_below {p : Int} {l : List S54} (h : hFrom p l = true) (ref : Int) : ∀ x ∈ l.take (placeH ref l), x.f0 < ref := by
  intro x hx
  obtain ⟨j, hj, e⟩ := List.getElem_of_mem hx
  have hj2 : j < placeH ref l ∧ j < l.length := by
    rw [List.length_take] at hj
    omega
  have := (placeH_at ref l p h j hj2.2).2 hj2.1
  rw [rdH_is l j hj2.2] at this
  rw [← e, List.getElem_take]
  exact this
theorem hFrom_put {l : List S54} (h : hFrom 0 l = true) (x : S54) (hx : holdB 0 x = true) (hn : foundH x.f0 l = false) : hFrom 0 (l.take (placeH x.f0 l) ++ x :: l.drop (placeH x.f0 l)) = true := by
  have hb := (holdB_iff _ _).1 hx
  have ht : hFrom 0 (l.take (placeH x.f0 l)) = true := by
    have := h
    rw [← List.take_append_drop (placeH x.f0 l) l, hFrom_append, Bool.and_eq_true] at this
    exact this.1
  rw [hFrom_append, ht, Bool.true_and]
  simp only [hFrom, Bool.and_eq_true]
  refine ⟨(holdB_iff _ _).2 ⟨hb.1, lastF_lt _ _ _ (by omega) (take_below h x.f0), hb.2.2⟩, ?_⟩
  by_cases hi : placeH x.f0 l < l.length
  · obtain ⟨g1, g2, g3⟩ := hFrom_split h _ hi
    rw [dropH_at l _ hi]
    simp only [hFrom, Bool.and_eq_true]
    have g4 := (holdB_iff _ _).1 g2
    refine ⟨(holdB_iff _ _).2 ⟨g4.1, ?_, g4.2.2⟩, g3⟩
    have n1 : ¬ (rd_T54 l (placeH x.f0 l : Int)).f0 < x.f0 := fun hlt => by
      have := (placeH_at x.f0 l 0 h _ hi).1 hlt
      omega
    have n2 : (rd_T54 l (placeH x.f0 l : Int)).f0 ≠ x.f0 := fun e => by
      have := (found_iff h x.f0).2 ⟨_, hi, e⟩
      rw [hn] at this
      cases this
    omega
  · rw [List.drop_of_length_le (by omega)]
    rfl
theorem length_drop (l : List S54) (i : Nat) (hi : i < l.length) : (dropH i l).length = l.length - 1 := by
  unfold dropH
  simp
  omega
theorem length_put (l : List S54) (i : Nat) (hi : i ≤ l.length) (x : S54) : (l.take i ++ x :: l.drop i).length = l.length + 1 := by
  simp
  omega
theorem rd_put (l : List S54) (i : Nat) (hi : i ≤ l.length) (x : S54) : rd_T54 (l.take i ++ x :: l.drop i) (i : Int) = x := by
  rw [rdH_is _ i (by rw [length_put l i hi]; omega)]
  rw [List.getElem_append_right (by simp; omega)]
  simp [Nat.min_eq_left hi]
theorem mem_rd (l : List S54) (i : Nat) (hi : i < l.length) : rd_T54 l (i : Int) ∈ l := by
  rw [rdH_is l i hi]
  exact List.getElem_mem hi
theorem rd_of_mem {l : List S54} {x : S54} (h : x ∈ l) : ∃ i : Nat, i < l.length ∧ rd_T54 l (i : Int) = x := by
  obtain ⟨j, hj, e⟩ := List.getElem_of_mem h
  exact ⟨j, hj, by rw [rdH_is l j hj]; exact e⟩
theorem found_mem {p : Int} {l : List S54} (h : hFrom p l = true) (ref : Int) : foundH ref l = true ↔ ∃ x ∈ l, x.f0 = ref := by
  rw [found_iff h ref]
  constructor
  · rintro ⟨i, hi, e⟩
    exact ⟨_, mem_rd l i hi, e⟩
  · rintro ⟨x, hx, e⟩
    obtain ⟨i, hi, ei⟩ := rd_of_mem hx
    exact ⟨i, hi, by rw [ei]; exact e⟩
theorem found_drop {l : List S54} (h : hFrom 0 l = true) (ref : Int) (hf : foundH ref l = true) : foundH ref (dropH (placeH ref l) l) = false := by
  rw [Bool.eq_false_iff]
  intro h2
  obtain ⟨x, hx, e⟩ := (found_mem (hFrom_drop h _ (found_lt hf)) ref).1 h2
  unfold dropH at hx
  rcases List.mem_append.1 hx with hx | hx
  · have := take_below h ref x hx
    omega
  · have h1 := hFrom_above _ _ (hFrom_split h _ (found_lt hf)).2.2 x hx
    have h3 : (rd_T54 l (placeH ref l : Int)).f0 = ref := by
      unfold foundH at hf
      simp only [Bool.and_eq_true, decide_eq_true_eq] at hf
      exact hf.2
    omega
theorem found_at {ref : Int} {l : List S54} (hf : foundH ref l = true) : (rd_T54 l (placeH ref l : Int)).f0 = ref := by
  unfold foundH at hf
  simp only [Bool.and_eq_true, decide_eq_true_eq] at hf
  exact hf.2

/-- Same of one account with itself. -/
theorem same_l0 (s1 s2 : ByteArray) (b1 b2 : Int) (l : List S54) (hl : l.length ≤ 1000000) : ∀ (d j k : Nat), l.length - j = d → d + 1 ≤ k → crossbarref28_Same.l0 k (j : Int) s1 b1 l s2 b2 l = some true := by
  intro d
  induction d with
  | zero =>
    intro j k hd hk
    obtain ⟨k, rfl⟩ : ∃ i, k = i + 1 := ⟨k - 1, by omega⟩
    simp only [crossbarref28_Same.l0]
    rw [if_neg (by omega)]
  | succ d ih =>
    intro j k hd hk
    obtain ⟨k, rfl⟩ : ∃ i, k = i + 1 := ⟨k - 1, by omega⟩
    simp only [crossbarref28_Same.l0]
    rw [if_pos (by omega), if_pos (by omega), if_pos (by omega), if_neg (by simp), pw1 (by omega)]
    exact ih (j + 1) k (by omega) (by omega)
theorem same_refl (s : ByteArray) (b : Int) (l : List S54) (hl : l.length ≤ 1000000) (k : Nat) (hk : l.length + 2 ≤ k) : crossbarref28_Same.f k s b l s b l = some true := by
  obtain ⟨k, rfl⟩ : ∃ i, k = i + 1 := ⟨k - 1, by omega⟩
  unfold crossbarref28_Same.f
  rw [if_pos rfl, if_pos rfl]
  simp only [crossbarref28_Same.j0]
  rw [if_neg (by simp)]
  exact same_l0 s s b b l hl l.length 0 k (by omega) (by omega)
end Go.Proofs.YtldpacphackdjaaDoor.Print
/- Plain facts on accounts: what Reserve, Settle and Deposit make of a valid account is a valid account. -/
namespace Go.Proofs.YtldpacphackdjaaDoor.Print
open Go.RowKit Go.Proofs.YtldpacphackdjaaDoorW.PrintWords Go.Proofs.YtldpacphackdjaaDoorW.PrintLast Go.Proofs.YtldpacphackdjaaDoorW.PrintMore
set_option linter.unusedVariables false
set_option linter.unusedSimpArgs false

theorem pchk_cases (s : ByteArray) (b : Int) (l : List S54) : Acc s b l ∧ pchk s b l = 0 ∨ (¬ Acc s b l) ∧ (pchk s b l = 1 ∨ pchk s b l = 2) := by
  by_cases h : Acc s b l
  · exact .inl ⟨h, (pchk_zero s b l).2 h⟩
  · refine .inr ⟨h, ?_⟩
    have hn : pchk s b l ≠ 0 := fun e => h ((pchk_zero s b l).1 e)
    unfold pchk at hn ⊢
    split
    · exact .inr rfl
    · rename_i h1
      rw [if_neg h1] at hn
      split
      · rename_i h2
        rw [if_pos h2] at hn
        exact absurd rfl hn
      · exact .inl rfl
/-- What Settle leaves of the balance. -/
def restB (b u used : Int) : Int := mx 0 (wrap64 (b + u - used))
theorem settle_ok {s : ByteArray} {b : Int} {l : List S54} (h : Acc s b l) (ref used : Int) (hu : 0 ≤ used) (hf : foundH ref l = true) :
    prepaid_Settle.f s b l ref used = some (s, restB b (rd_T54 l (placeH ref l : Int)).f1 used, dropH (placeH ref l) l, 0) := by
  unfold prepaid_Settle.f restB
  rw [if_pos ((pchk_zero s b l).2 h), if_neg (by omega), if_pos hf]
theorem settle_no {s : ByteArray} {b : Int} {l : List S54} (ref used : Int) (hn : ¬ (Acc s b l ∧ 0 ≤ used ∧ foundH ref l = true)) :
    ∃ e, prepaid_Settle.f s b l ref used = some (⟨#[]⟩, 0, [], e) ∧ e ≠ 0 ∧ (Acc s b l → e = 1) := by
  unfold prepaid_Settle.f
  rcases pchk_cases s b l with ⟨ha, h0⟩ | ⟨ha, h1⟩
  · rw [if_pos h0]
    by_cases hu : used < 0
    · rw [if_pos hu]; exact ⟨1, rfl, by omega, fun _ => rfl⟩
    · rw [if_neg hu, if_neg (fun hf => hn ⟨ha, by omega, hf⟩)]; exact ⟨1, rfl, by omega, fun _ => rfl⟩
  · rw [if_neg (by omega)]; exact ⟨_, rfl, by omega, fun h => absurd h ha⟩
theorem units_bd {s : ByteArray} {b : Int} {l : List S54} (h : Acc s b l) (i : Nat) (hi : i < l.length) : 0 ≤ (rd_T54 l (i : Int)).f1 ∧ (rd_T54 l (i : Int)).f1 ≤ 1099511627776 ∧ b + (rd_T54 l (i : Int)).f1 ≤ 1099511627776 ∧ 0 ≤ (rd_T54 l (i : Int)).f2 ∧ (rd_T54 l (i : Int)).f2 ≤ 1099511627776 := by
  have h1 := hFrom_units l 0 h.holds _ (mem_rd l i hi)
  have h2 := sumU_drop l i hi
  have h3 := (sumU_bd _ _ (hFrom_drop h.holds i hi)).1
  have h4 := h.sum
  omega
theorem restB_is {b u used : Int} (hb : 0 ≤ b) (hu : 0 ≤ u) (hs : b + u ≤ 1099511627776) (h0 : 0 ≤ used) (h1 : used ≤ 9223372036854775807) : restB b u used = mx 0 (b + u - used) := by
  unfold restB
  rw [show wrap64 (b + u - used) = b + u - used by unfold wrap64; omega]
theorem restB_bd {b u used : Int} (hb : 0 ≤ b) (hu : 0 ≤ u) (hs : b + u ≤ 1099511627776) (h0 : 0 ≤ used) (h1 : used ≤ 9223372036854775807) : 0 ≤ restB b u used ∧ restB b u used ≤ b + u := by
  rw [restB_is hb hu hs h0 h1]
  unfold mx
  split <;> omega
theorem acc_settle {s : ByteArray} {b : Int} {l : List S54} (h : Acc s b l) (i : Nat) (hi : i < l.length) (b2 : Int) (h0 : 0 ≤ b2) (h1 : b2 ≤ b + (rd_T54 l (i : Int)).f1) : Acc s b2 (dropH i l) := by
  have hu := units_bd h i hi
  have h2 := sumU_drop l i hi
  have h4 := h.sum
  have h5 := h.len
  refine ⟨by rw [length_drop l i hi]; omega, h.num, by omega, hFrom_drop h.holds i hi, by omega⟩
theorem deposit_ok {s : ByteArray} {b : Int} {l : List S54} (h : Acc s b l) (n : Int) (h0 : 0 ≤ n) (h1 : b + sumU l + n ≤ 1099511627776) : prepaid_Deposit.f s b l n = some (s, b + n, l, 0) := by
  unfold prepaid_Deposit.f
  have h2 := (sumU_bd _ _ h.holds).1
  have h3 := h.bal
  rw [if_pos ((pchk_zero s b l).2 h), if_pos (by omega), acc_worth h.len h.bal h.holds, if_neg (by omega)]
theorem deposit_no {s : ByteArray} {b : Int} {l : List S54} (n : Int) (hn : ¬ (Acc s b l ∧ 0 ≤ n ∧ b + sumU l + n ≤ 1099511627776)) : ∃ e, prepaid_Deposit.f s b l n = some (⟨#[]⟩, 0, [], e) ∧ (e = 1 ∨ e = 2) := by
  unfold prepaid_Deposit.f
  rcases pchk_cases s b l with ⟨ha, h0⟩ | ⟨ha, h1⟩
  · rw [if_pos h0]
    by_cases hu : 0 ≤ n ∧ n ≤ 1099511627776
    · rw [if_pos hu, acc_worth ha.len ha.bal ha.holds, if_pos (Int.not_le.1 fun h => hn ⟨ha, hu.1, h⟩)]
      exact ⟨2, rfl, .inr rfl⟩
    · rw [if_neg hu]; exact ⟨1, rfl, .inl rfl⟩
  · rw [if_neg (by omega)]; exact ⟨_, rfl, h1⟩
theorem acc_deposit {s : ByteArray} {b : Int} {l : List S54} (h : Acc s b l) (n : Int) (h0 : 0 ≤ n) (h1 : b + sumU l + n ≤ 1099511627776) : Acc s (b + n) l := by
  have h2 := (sumU_bd _ _ h.holds).1
  have h3 := h.bal
  exact ⟨h.len, h.num, by omega, h.holds, by omega⟩

/-- The end of the call's hold ahead of the reservation, its units, the seconds that are paid for, their price. -/
def stH (ref now : Int) (l : List S54) : Int := (atH ref now l).f2
def unH (ref now : Int) (l : List S54) : Int := (atH ref now l).f1
def secs (b : Int) (l : List S54) (tl : List S70) (ref now : Int) : Int := lasts tl b now (stH ref now l)
def cost (b : Int) (l : List S54) (tl : List S70) (ref now : Int) : Int := totalP tl (stH ref now l + secs b l tl ref now) - totalP tl (stH ref now l)
def putH (b : Int) (l : List S54) (tl : List S70) (ref now : Int) : List S54 := (withH ref now l).set (placeH ref l) ⟨ref, unH ref now l + cost b l tl ref now, stH ref now l + secs b l tl ref now⟩
theorem at_found {ref now : Int} {l : List S54} (hf : foundH ref l = true) : withH ref now l = l ∧ atH ref now l = rd_T54 l (placeH ref l : Int) := by
  have e : withH ref now l = l := by unfold withH; rw [if_pos hf]
  exact ⟨e, by unfold atH; rw [e]⟩
theorem at_new {ref now : Int} {l : List S54} (hf : foundH ref l = false) : withH ref now l = l.take (placeH ref l) ++ (⟨ref, 0, now⟩ : S54) :: l.drop (placeH ref l) ∧ atH ref now l = ⟨ref, 0, now⟩ := by
  have e : withH ref now l = l.take (placeH ref l) ++ (⟨ref, 0, now⟩ : S54) :: l.drop (placeH ref l) := by unfold withH; rw [if_neg (by rw [hf]; simp)]
  exact ⟨e, by unfold atH; rw [e]; exact rd_put l _ (placeH_le _ _) _⟩
theorem at_ref (ref now : Int) (l : List S54) : (atH ref now l).f0 = ref := by
  cases hf : foundH ref l with
  | true => rw [(at_found hf).2]; exact found_at hf
  | false => rw [(at_new hf).2]
/-- When Reserve reserves. -/
structure ROk (s : ByteArray) (b : Int) (l : List S54) (tl : List S70) (ref now : Int) : Prop where
  acc : Acc s b l
  hg : good tl = true
  ref1 : 1 ≤ ref
  ref2 : ref ≤ 1099511627776
  now1 : 0 ≤ now
  now2 : now ≤ 1099511627776
  room : ¬ (foundH ref l = false ∧ l.length = 1024)
  pos : secs b l tl ref now ≠ 0
  late : now < stH ref now l + secs b l tl ref now
theorem reserve_ok {s : ByteArray} {b : Int} {l : List S54} {tl : List S70} {ref now : Int} (h : ROk s b l tl ref now) :
    prepaid_Reserve.f s b l tl ref now = some (s, b - cost b l tl ref now, putH b l tl ref now, stH ref now l + secs b l tl ref now, 0) := by
  unfold prepaid_Reserve.f
  have h1 := h.pos
  have h2 := h.late
  unfold putH cost secs stH unH at *
  rw [if_pos ((pchk_zero s b l).2 h.acc), if_pos h.hg, if_pos ⟨h.ref1, h.ref2⟩, if_pos ⟨h.now1, h.now2⟩, if_neg h.room, if_neg (by rintro (h3 | h3); exact h1 h3; omega), at_ref]
theorem reserve_err {s : ByteArray} {b : Int} {l : List S54} {tl : List S70} {ref now : Int} (h : ¬ ROk s b l tl ref now) :
    ∃ e, prepaid_Reserve.f s b l tl ref now = some (⟨#[]⟩, 0, [], 0, e) ∧ e ≠ 0 := by
  unfold prepaid_Reserve.f
  rcases pchk_cases s b l with ⟨ha, h0⟩ | ⟨ha, h1⟩
  · rw [if_pos h0]
    by_cases hg : good tl = true
    · rw [if_pos hg]
      by_cases h1 : 1 ≤ ref ∧ ref ≤ 1099511627776
      · rw [if_pos h1]
        by_cases h2 : 0 ≤ now ∧ now ≤ 1099511627776
        · rw [if_pos h2]
          by_cases h3 : foundH ref l = false ∧ l.length = 1024
          · rw [if_pos h3]; exact ⟨2, rfl, by omega⟩
          · rw [if_neg h3]
            by_cases h4 : lasts tl b now (atH ref now l).f2 = 0 ∨ (atH ref now l).f2 + lasts tl b now (atH ref now l).f2 ≤ now
            · rw [if_pos h4]; exact ⟨280, rfl, by omega⟩
            · exact absurd ⟨ha, hg, h1.1, h1.2, h2.1, h2.2, h3, fun e => h4 (.inl e), Int.not_le.1 fun e => h4 (.inr e)⟩ h
        · rw [if_neg h2]; exact ⟨1, rfl, by omega⟩
      · rw [if_neg h1]; exact ⟨1, rfl, by omega⟩
    · rw [if_neg hg]; exact ⟨260, rfl, by omega⟩
  · rw [if_neg (by omega)]; exact ⟨_, rfl, by omega⟩
/-- Reserve says 'no credit' where all but the seconds is well. -/
theorem reserve_credit {s : ByteArray} {b : Int} {l : List S54} {tl : List S70} {ref now : Int} (ha : Acc s b l) (hg : good tl = true) (h1 : 1 ≤ ref ∧ ref ≤ 1099511627776) (h2 : 0 ≤ now ∧ now ≤ 1099511627776) (h3 : ¬ (foundH ref l = false ∧ l.length = 1024))
    (h4 : secs b l tl ref now = 0 ∨ stH ref now l + secs b l tl ref now ≤ now) : prepaid_Reserve.f s b l tl ref now = some (⟨#[]⟩, 0, [], 0, 280) := by
  unfold prepaid_Reserve.f
  unfold secs stH at h4
  rw [if_pos ((pchk_zero s b l).2 ha), if_pos hg, if_pos h1, if_pos h2, if_neg h3, if_pos h4]
theorem credit_only {s : ByteArray} {b : Int} {l : List S54} {tl : List S70} {ref now : Int} {r1 : ByteArray} {r2 : Int} {r3 : List S54} {r4 : Int} (h : prepaid_Reserve.f s b l tl ref now = some (r1, r2, r3, r4, 280)) :
    Acc s b l ∧ good tl = true ∧ (1 ≤ ref ∧ ref ≤ 1099511627776) ∧ (0 ≤ now ∧ now ≤ 1099511627776) ∧ ¬ (foundH ref l = false ∧ l.length = 1024) ∧ (secs b l tl ref now = 0 ∨ stH ref now l + secs b l tl ref now ≤ now) := by
  unfold prepaid_Reserve.f at h
  rcases pchk_cases s b l with ⟨ha, h0⟩ | ⟨ha, h1⟩
  · rw [if_pos h0] at h
    by_cases hg : good tl = true
    · rw [if_pos hg] at h
      by_cases h1 : 1 ≤ ref ∧ ref ≤ 1099511627776
      · rw [if_pos h1] at h
        by_cases h2 : 0 ≤ now ∧ now ≤ 1099511627776
        · rw [if_pos h2] at h
          by_cases h3 : foundH ref l = false ∧ l.length = 1024
          · rw [if_pos h3] at h; simp at h
          · rw [if_neg h3] at h
            by_cases h4 : lasts tl b now (atH ref now l).f2 = 0 ∨ (atH ref now l).f2 + lasts tl b now (atH ref now l).f2 ≤ now
            · exact ⟨ha, hg, h1, h2, h3, h4⟩
            · rw [if_neg h4] at h; simp at h
        · rw [if_neg h2] at h; simp at h
      · rw [if_neg h1] at h; simp at h
    · rw [if_neg hg] at h; simp at h
  · rw [if_neg (by omega)] at h
    simp only [Option.some.injEq, Prod.mk.injEq] at h
    omega
theorem st_bd {s : ByteArray} {b : Int} {l : List S54} {ref now : Int} (h : Acc s b l) (h1 : 0 ≤ now) (h2 : now ≤ 1099511627776) : 0 ≤ stH ref now l ∧ stH ref now l ≤ 1099511627776 ∧ 0 ≤ unH ref now l ∧ b + unH ref now l ≤ 1099511627776 := by
  unfold stH unH
  cases hf : foundH ref l with
  | true =>
    rw [(at_found hf).2]
    have := units_bd h _ (found_lt hf)
    omega
  | false =>
    rw [(at_new hf).2]
    have := h.bal
    show 0 ≤ now ∧ now ≤ 1099511627776 ∧ (0 : Int) ≤ 0 ∧ b + 0 ≤ 1099511627776
    omega
theorem cost_bd {s : ByteArray} {b : Int} {l : List S54} {tl : List S70} {ref now : Int} (h : Acc s b l) (hg : good tl = true) (h1 : 0 ≤ now) (h2 : now ≤ 1099511627776) :
    0 ≤ secs b l tl ref now ∧ stH ref now l + secs b l tl ref now ≤ 1099511627776 ∧ 0 ≤ cost b l tl ref now ∧ cost b l tl ref now ≤ b := by
  have hs := st_bd (ref := ref) h h1 h2
  have := lasts_bd hg b now (stH ref now l) h.bal.1 h1 h2 hs.1 hs.2.1
  exact ⟨this.1, this.2.1, this.2.2.1, this.2.2.2.1⟩
theorem withH_lt (ref now : Int) (l : List S54) : placeH ref l < (withH ref now l).length := by
  cases hf : foundH ref l with
  | true => rw [(at_found hf).1]; exact found_lt hf
  | false => rw [(at_new hf).1, length_put l _ (placeH_le _ _)]; have := placeH_le ref l; omega
theorem withH_from {s : ByteArray} {b : Int} {l : List S54} {ref now : Int} (h : Acc s b l) (h1 : 1 ≤ ref ∧ ref ≤ 1099511627776) (h2 : 0 ≤ now ∧ now ≤ 1099511627776) : hFrom 0 (withH ref now l) = true := by
  cases hf : foundH ref l with
  | true => rw [(at_found hf).1]; exact h.holds
  | false =>
    rw [(at_new hf).1]
    exact hFrom_put h.holds ⟨ref, 0, now⟩ ((holdB_iff _ _).2 ⟨h1, by show 0 < ref; omega, by show (0 : Int) ≤ 0 ∧ (0 : Int) ≤ 1099511627776; omega, h2⟩) hf
theorem withH_sum (ref now : Int) (l : List S54) : sumU (withH ref now l) = sumU l := by
  cases hf : foundH ref l with
  | true => rw [(at_found hf).1]
  | false => rw [(at_new hf).1, sumU_put]; show sumU l + 0 = sumU l; omega
theorem at_is (ref now : Int) (l : List S54) : rd_T54 (withH ref now l) (placeH ref l : Int) = atH ref now l := rfl
theorem put_sum (b : Int) (l : List S54) (tl : List S70) (ref now : Int) : sumU (putH b l tl ref now) = sumU l + cost b l tl ref now := by
  unfold putH
  rw [sumU_set _ _ (withH_lt ref now l), at_is, withH_sum]
  show sumU l - unH ref now l + (unH ref now l + cost b l tl ref now) = _
  omega
theorem put_from {s : ByteArray} {b : Int} {l : List S54} {tl : List S70} {ref now : Int} (h : ROk s b l tl ref now) : hFrom 0 (putH b l tl ref now) = true := by
  have hs := st_bd (ref := ref) h.acc h.now1 h.now2
  have hc := cost_bd (ref := ref) h.acc h.hg h.now1 h.now2
  have hb := h.acc.bal
  refine hFrom_set (withH_from h.acc ⟨h.ref1, h.ref2⟩ ⟨h.now1, h.now2⟩) _ (withH_lt ref now l) _ ?_ ?_ ?_
  · rw [at_is, at_ref]
  · show 0 ≤ unH ref now l + cost b l tl ref now ∧ unH ref now l + cost b l tl ref now ≤ 1099511627776
    omega
  · show 0 ≤ stH ref now l + secs b l tl ref now ∧ stH ref now l + secs b l tl ref now ≤ 1099511627776
    omega
theorem put_len {s : ByteArray} {b : Int} {l : List S54} {tl : List S70} {ref now : Int} (h : ROk s b l tl ref now) : (putH b l tl ref now).length ≤ 1024 ∧ (foundH ref l = true → (putH b l tl ref now).length = l.length) ∧ (foundH ref l = false → (putH b l tl ref now).length = l.length + 1) := by
  have hl := h.acc.len
  have hr := h.room
  unfold putH
  rw [List.length_set]
  cases hf : foundH ref l with
  | true => rw [(at_found hf).1]; exact ⟨hl, fun _ => rfl, fun e => (by cases e)⟩
  | false =>
    rw [(at_new hf).1, length_put l _ (placeH_le _ _)]
    have hne : l.length ≠ 1024 := fun e => hr ⟨hf, e⟩
    exact ⟨by omega, fun e => (by cases e), fun _ => rfl⟩
theorem acc_reserve {s : ByteArray} {b : Int} {l : List S54} {tl : List S70} {ref now : Int} (h : ROk s b l tl ref now) : Acc s (b - cost b l tl ref now) (putH b l tl ref now) := by
  have hc := cost_bd (ref := ref) h.acc h.hg h.now1 h.now2
  have hb := h.acc.bal
  have hs := h.acc.sum
  exact ⟨(put_len h).1, h.acc.num, by omega, put_from h, by rw [put_sum]; omega⟩
theorem rd_put_place (b : Int) (l : List S54) (tl : List S70) (ref now : Int) : rd_T54 (putH b l tl ref now) (placeH ref l : Int) = ⟨ref, unH ref now l + cost b l tl ref now, stH ref now l + secs b l tl ref now⟩ := rd_set54 _ _ _ (withH_lt ref now l)
theorem put_lt (b : Int) (l : List S54) (tl : List S70) (ref now : Int) : placeH ref l < (putH b l tl ref now).length := by unfold putH; rw [List.length_set]; exact withH_lt ref now l
theorem put_found {s : ByteArray} {b : Int} {l : List S54} {tl : List S70} {ref now : Int} (h : ROk s b l tl ref now) : foundH ref (putH b l tl ref now) = true ∧ placeH ref (putH b l tl ref now) = placeH ref l := by
  have e : (rd_T54 (putH b l tl ref now) (placeH ref l : Int)).f0 = ref := by rw [rd_put_place]
  exact ⟨(found_iff (put_from h) ref).2 ⟨_, put_lt b l tl ref now, e⟩, place_of (put_from h) ref _ (put_lt b l tl ref now) e⟩
end Go.Proofs.YtldpacphackdjaaDoor.Print
/- That the chapter's example of layer 28 answers true. Condition: enough rounds. -/
namespace Go.Proofs.YtldpacphackdjaaDoor.Print
open Go.RowKit Go.Proofs.YtldpacphackdjaaDoorW.PrintWords Go.Proofs.YtldpacphackdjaaDoorW.PrintLast Go.Proofs.YtldpacphackdjaaDoorW.PrintMore
set_option linter.unusedVariables false
set_option linter.unusedSimpArgs false
set_option maxRecDepth 100000 in
theorem sane_r1 : prepaid_Reserve.f ⟨#[49]⟩ 100 [] [⟨0, 2⟩] 7 0 = some (⟨#[49]⟩, 40, [⟨7, 60, 30⟩], 30, 0) := by kernel_rfl
set_option maxRecDepth 100000 in
theorem sane_r2 : prepaid_Reserve.f ⟨#[49]⟩ 40 [⟨7, 60, 30⟩] [⟨0, 2⟩] 7 30 = some (⟨#[49]⟩, 0, [⟨7, 100, 50⟩], 50, 0) := by kernel_rfl
set_option maxRecDepth 100000 in
theorem sane_r3 : prepaid_Reserve.f ⟨#[49]⟩ 0 [⟨7, 100, 50⟩] [⟨0, 2⟩] 7 50 = some (⟨#[]⟩, 0, [], 0, 280) := by kernel_rfl
set_option maxRecDepth 100000 in
theorem sane_s : prepaid_Settle.f ⟨#[49]⟩ 0 [⟨7, 100, 50⟩] 7 90 = some (⟨#[49]⟩, 10, [], 0) := by kernel_rfl
theorem sane28_is (k : Nat) (hk : 100 ≤ k) : crossbarlaw28_sane.f k = some true := by
  unfold crossbarlaw28_sane.f
  simp only [Option.bind_some, sane_r1, sane_r2, sane_r3, sane_s]
  rw [worth_is ⟨#[49]⟩ 0 [⟨7, 100, 50⟩] (by simp) k (by simp; omega)]
  simp [worthW, wrap64]
end Go.Proofs.YtldpacphackdjaaDoor.Print
/- The words of the program's head line: behind the harness' word and its sum. No conditions. -/
namespace Go.Proofs.YtldpacphackdjaaDoor
set_option maxRecDepth 100000
def headSigns : List Char := [Char.ofNat 104, Char.ofNat 97, Char.ofNat 114, Char.ofNat 110, Char.ofNat 101, Char.ofNat 115, Char.ofNat 115, Char.ofNat 32, Char.ofNat 99, Char.ofNat 54, Char.ofNat 98, Char.ofNat 51, Char.ofNat 99, Char.ofNat 97, Char.ofNat 49, Char.ofNat 53, Char.ofNat 101, Char.ofNat 101, Char.ofNat 97, Char.ofNat 101, Char.ofNat 50, Char.ofNat 102, Char.ofNat 51, Char.ofNat 50, Char.ofNat 102, Char.ofNat 54, Char.ofNat 100, Char.ofNat 48, Char.ofNat 99, Char.ofNat 55, Char.ofNat 57, Char.ofNat 57, Char.ofNat 52, Char.ofNat 55, Char.ofNat 100, Char.ofNat 48, Char.ofNat 54, Char.ofNat 99, Char.ofNat 55, Char.ofNat 50, Char.ofNat 99, Char.ofNat 99, Char.ofNat 98, Char.ofNat 51, Char.ofNat 100, Char.ofNat 98, Char.ofNat 102, Char.ofNat 54, Char.ofNat 100, Char.ofNat 101, Char.ofNat 99, Char.ofNat 51, Char.ofNat 54, Char.ofNat 50, Char.ofNat 97, Char.ofNat 100, Char.ofNat 54, Char.ofNat 54, Char.ofNat 52, Char.ofNat 101, Char.ofNat 57, Char.ofNat 57, Char.ofNat 101, Char.ofNat 53, Char.ofNat 51, Char.ofNat 55, Char.ofNat 98, Char.ofNat 56, Char.ofNat 48, Char.ofNat 101, Char.ofNat 53, Char.ofNat 49, Char.ofNat 32]
def leadSigns : List Char := [Char.ofNat 99, Char.ofNat 117, Char.ofNat 116, Char.ofNat 32]
def tailSigns : List Char := [Char.ofNat 97, Char.ofNat 116, Char.ofNat 32, Char.ofNat 99, Char.ofNat 114, Char.ofNat 111, Char.ofNat 115, Char.ofNat 115, Char.ofNat 98, Char.ofNat 97, Char.ofNat 114, Char.ofNat 47, Char.ofNat 99, Char.ofNat 114, Char.ofNat 111, Char.ofNat 115, Char.ofNat 115, Char.ofNat 98, Char.ofNat 97, Char.ofNat 114, Char.ofNat 116, Char.ofNat 111, Char.ofNat 112, Char.ofNat 46, Char.ofNat 84, Char.ofNat 111, Char.ofNat 112, Char.ofNat 80, Char.ofNat 114, Char.ofNat 101, Char.ofNat 112, Char.ofNat 97, Char.ofNat 105, Char.ofNat 100, Char.ofNat 32, Char.ofNat 99, Char.ofNat 114, Char.ofNat 111, Char.ofNat 115, Char.ofNat 115, Char.ofNat 98, Char.ofNat 97, Char.ofNat 114, Char.ofNat 47, Char.ofNat 99, Char.ofNat 114, Char.ofNat 111, Char.ofNat 115, Char.ofNat 115, Char.ofNat 98, Char.ofNat 97, Char.ofNat 114, Char.ofNat 108, Char.ofNat 97, Char.ofNat 119, Char.ofNat 50, Char.ofNat 56, Char.ofNat 46, Char.ofNat 80, Char.ofNat 114, Char.ofNat 101, Char.ofNat 112, Char.ofNat 97, Char.ofNat 105, Char.ofNat 100, Char.ofNat 77, Char.ofNat 97, Char.ofNat 116, Char.ofNat 99, Char.ofNat 104, Char.ofNat 101, Char.ofNat 115, Char.ofNat 82, Char.ofNat 101, Char.ofNat 115, Char.ofNat 101, Char.ofNat 114, Char.ofNat 118, Char.ofNat 101, Char.ofNat 32, Char.ofNat 99, Char.ofNat 114, Char.ofNat 111, Char.ofNat 115, Char.ofNat 115, Char.ofNat 98, Char.ofNat 97, Char.ofNat 114, Char.ofNat 47, Char.ofNat 99, Char.ofNat 114, Char.ofNat 111, Char.ofNat 115, Char.ofNat 115, Char.ofNat 98, Char.ofNat 97, Char.ofNat 114, Char.ofNat 108, Char.ofNat 97, Char.ofNat 119, Char.ofNat 50, Char.ofNat 56, Char.ofNat 46, Char.ofNat 80, Char.ofNat 114, Char.ofNat 101, Char.ofNat 112, Char.ofNat 97, Char.ofNat 105, Char.ofNat 100, Char.ofNat 67, Char.ofNat 104, Char.ofNat 117, Char.ofNat 110, Char.ofNat 107, Char.ofNat 115, Char.ofNat 65, Char.ofNat 102, Char.ofNat 102, Char.ofNat 111, Char.ofNat 114, Char.ofNat 100, Char.ofNat 65, Char.ofNat 108, Char.ofNat 108, Char.ofNat 32, Char.ofNat 99, Char.ofNat 114, Char.ofNat 111, Char.ofNat 115, Char.ofNat 115, Char.ofNat 98, Char.ofNat 97, Char.ofNat 114, Char.ofNat 47, Char.ofNat 99, Char.ofNat 114, Char.ofNat 111, Char.ofNat 115, Char.ofNat 115, Char.ofNat 98, Char.ofNat 97, Char.ofNat 114, Char.ofNat 108, Char.ofNat 97, Char.ofNat 119, Char.ofNat 50, Char.ofNat 56, Char.ofNat 46, Char.ofNat 80, Char.ofNat 114, Char.ofNat 101, Char.ofNat 112, Char.ofNat 97, Char.ofNat 105, Char.ofNat 100, Char.ofNat 67, Char.ofNat 97, Char.ofNat 108, Char.ofNat 108, Char.ofNat 115, Char.ofNat 73, Char.ofNat 110, Char.ofNat 100, Char.ofNat 101, Char.ofNat 112, Char.ofNat 101, Char.ofNat 110, Char.ofNat 100, Char.ofNat 101, Char.ofNat 110, Char.ofNat 116, Char.ofNat 32, Char.ofNat 99, Char.ofNat 114, Char.ofNat 111, Char.ofNat 115, Char.ofNat 115, Char.ofNat 98, Char.ofNat 97, Char.ofNat 114, Char.ofNat 47, Char.ofNat 99, Char.ofNat 114, Char.ofNat 111, Char.ofNat 115, Char.ofNat 115, Char.ofNat 98, Char.ofNat 97, Char.ofNat 114, Char.ofNat 108, Char.ofNat 97, Char.ofNat 119, Char.ofNat 50, Char.ofNat 56, Char.ofNat 46, Char.ofNat 80, Char.ofNat 114, Char.ofNat 101, Char.ofNat 112, Char.ofNat 97, Char.ofNat 105, Char.ofNat 100, Char.ofNat 83, Char.ofNat 101, Char.ofNat 116, Char.ofNat 116, Char.ofNat 108, Char.ofNat 101, Char.ofNat 66, Char.ofNat 111, Char.ofNat 117, Char.ofNat 110, Char.ofNat 100, Char.ofNat 101, Char.ofNat 100, Char.ofNat 32, Char.ofNat 99, Char.ofNat 114, Char.ofNat 111, Char.ofNat 115, Char.ofNat 115, Char.ofNat 98, Char.ofNat 97, Char.ofNat 114, Char.ofNat 47, Char.ofNat 99, Char.ofNat 114, Char.ofNat 111, Char.ofNat 115, Char.ofNat 115, Char.ofNat 98, Char.ofNat 97, Char.ofNat 114, Char.ofNat 108, Char.ofNat 97, Char.ofNat 119, Char.ofNat 50, Char.ofNat 56, Char.ofNat 46, Char.ofNat 80, Char.ofNat 114, Char.ofNat 101, Char.ofNat 112, Char.ofNat 97, Char.ofNat 105, Char.ofNat 100, Char.ofNat 77, Char.ofNat 97, Char.ofNat 116, Char.ofNat 99, Char.ofNat 104, Char.ofNat 101, Char.ofNat 115, Char.ofNat 65, Char.ofNat 99, Char.ofNat 99, Char.ofNat 111, Char.ofNat 117, Char.ofNat 110, Char.ofNat 116, Char.ofNat 115, Char.ofNat 32, Char.ofNat 99, Char.ofNat 114, Char.ofNat 111, Char.ofNat 115, Char.ofNat 115, Char.ofNat 98, Char.ofNat 97, Char.ofNat 114, Char.ofNat 47, Char.ofNat 99, Char.ofNat 114, Char.ofNat 111, Char.ofNat 115, Char.ofNat 115, Char.ofNat 98, Char.ofNat 97, Char.ofNat 114, Char.ofNat 108, Char.ofNat 97, Char.ofNat 119, Char.ofNat 50, Char.ofNat 56, Char.ofNat 46, Char.ofNat 80, Char.ofNat 114, Char.ofNat 101, Char.ofNat 112, Char.ofNat 97, Char.ofNat 105, Char.ofNat 100, Char.ofNat 67, Char.ofNat 111, Char.ofNat 110, Char.ofNat 115, Char.ofNat 101, Char.ofNat 114, Char.ofNat 118, Char.ofNat 101, Char.ofNat 115, Char.ofNat 67, Char.ofNat 114, Char.ofNat 101, Char.ofNat 100, Char.ofNat 105, Char.ofNat 116, Char.ofNat 32, Char.ofNat 99, Char.ofNat 114, Char.ofNat 111, Char.ofNat 115, Char.ofNat 115, Char.ofNat 98, Char.ofNat 97, Char.ofNat 114, Char.ofNat 47, Char.ofNat 99, Char.ofNat 114, Char.ofNat 111, Char.ofNat 115, Char.ofNat 115, Char.ofNat 98, Char.ofNat 97, Char.ofNat 114, Char.ofNat 108, Char.ofNat 97, Char.ofNat 119, Char.ofNat 50, Char.ofNat 56, Char.ofNat 46, Char.ofNat 80, Char.ofNat 114, Char.ofNat 101, Char.ofNat 112, Char.ofNat 97, Char.ofNat 105, Char.ofNat 100, Char.ofNat 68, Char.ofNat 101, Char.ofNat 112, Char.ofNat 111, Char.ofNat 115, Char.ofNat 105, Char.ofNat 116, Char.ofNat 115, Char.ofNat 32, Char.ofNat 99, Char.ofNat 114, Char.ofNat 111, Char.ofNat 115, Char.ofNat 115, Char.ofNat 98, Char.ofNat 97, Char.ofNat 114, Char.ofNat 47, Char.ofNat 99, Char.ofNat 114, Char.ofNat 111, Char.ofNat 115, Char.ofNat 115, Char.ofNat 98, Char.ofNat 97, Char.ofNat 114, Char.ofNat 108, Char.ofNat 97, Char.ofNat 119, Char.ofNat 50, Char.ofNat 56, Char.ofNat 46, Char.ofNat 80, Char.ofNat 114, Char.ofNat 101, Char.ofNat 112, Char.ofNat 97, Char.ofNat 105, Char.ofNat 100, Char.ofNat 82, Char.ofNat 101, Char.ofNat 115, Char.ofNat 101, Char.ofNat 114, Char.ofNat 118, Char.ofNat 97, Char.ofNat 116, Char.ofNat 105, Char.ofNat 111, Char.ofNat 110, Char.ofNat 80, Char.ofNat 97, Char.ofNat 121, Char.ofNat 115, Char.ofNat 65, Char.ofNat 104, Char.ofNat 101, Char.ofNat 97, Char.ofNat 100]
theorem head_text : Tryd.prog.initOrder = String.ofList (headSigns ++ (leadSigns ++ tailSigns)) := by kernel_rfl
theorem head_behind (r : List Char) : behindMainWord (wordsSigns (headSigns ++ r)) = wordsSigns r := by kernel_rfl
theorem head_lead (r : List Char) : wordsSigns (leadSigns ++ r) = ["cut".toList] ++ wordsSigns r := by kernel_rfl
theorem head_words : behindMainWord (wordsSigns Tryd.prog.initOrder.toList) = ["cut".toList] ++ wordsSigns tailSigns := by
  rw [head_text, String.toList_ofList, head_behind, head_lead]
theorem make_of (P : Program) (r : List (List Char)) (h : behindMainWord (wordsSigns P.initOrder.toList) = ["cut".toList] ++ r) : P.make = some .cut := by
  unfold Program.make
  rw [h]
  generalize P.headLifts = z
  kernel_rfl
theorem strip_of (r : List (List Char)) : stripLifts liftWords (["cut".toList] ++ r) = ([], ["cut".toList] ++ r) := by kernel_rfl
theorem lifts_of (P : Program) (r : List (List Char)) (h : behindMainWord (wordsSigns P.initOrder.toList) = ["cut".toList] ++ r) : P.liftsFinal = false := by
  unfold Program.liftsFinal Program.headLifts
  rw [h]
  kernel_rfl
theorem enter_of (P : Program) (r : List (List Char)) (h : behindMainWord (wordsSigns P.initOrder.toList) = ["cut".toList] ++ r) (h1 : P.laysLater = false) (h2 : P.bearsReflect = false) (h3 : P.doorFits [] = true) : P.mayEnter = true := by
  unfold Program.mayEnter
  rw [h]
  have e : stripLifts liftWords ("cut".toList :: r) = ([], "cut".toList :: r) := strip_of r
  simp only [List.cons_append, List.nil_append, e, h1, h2, h3]
  simp
theorem may_enter : Tryd.prog.mayEnter = true := enter_of _ _ head_words (by kernel_rfl) (by kernel_rfl) (by kernel_rfl)
theorem lifts_final : Tryd.prog.liftsFinal = false := lifts_of _ _ head_words
theorem make_is : Tryd.prog.make = some .cut := make_of _ _ head_words
theorem laid_out : laidOutB Tryd.prog = true := by kernel_rfl
theorem maps_rowed : mapsRowed Tryd.prog = true := by kernel_rfl
theorem stops_heard : Tryd.prog.stopsHeard = true := by kernel_rfl
end Go.Proofs.YtldpacphackdjaaDoor
/- How a tariff, an account and a list of operations that came in stand in memory, told in the words of the printed contracts. No conditions beyond that they can be read as data. -/
namespace Go.Proofs.YtldpacphackdjaaDoor.Print
open Go.ChangeShapes Go.WideShapes Go.ChangeAt Go.RowKit Go.Deep
open Go.Proofs.YtldpacphackdjaaDoorW.PrintWords hiding add_add
set_option linter.unusedVariables false

section
variable {H : Type} {enc : TypeId × Value → H} {P : Program} {w : World} {base : Nat} {spare : Nat → Bool} {held : Bool}

/-- A slice of structs of two whole numbers, opened: its length, its capacity, its elements. -/
theorem open_pairs {t e : TypeId} {f0 f1 : Field} {fuel : Nat} {cs : List Value} {x : DataW H × List MemPlace} (ht : P.underlying t = some (.slice e)) (he : P.underlying e = some (.struct #[f0, f1]))
    (ce : P.cellsOf e = 2) (o0 : f0.offset = 0) (o1 : f1.offset = 1) (c0 : P.cellsOf f0.type = 1) (c1 : P.cellsOf f1.type = 1) (u0 : P.underlying f0.type = some (.int .i64)) (u1 : P.underlying f1.type = some (.int .i64))
    (h : DataW.trod enc P w base spare held fuel t cs = some x) :
    ∃ (A : Option Addr) (c : Nat) (l : List (Int × Int)), cs = [.slice A l.length c] ∧ l.length ≤ c ∧ c ≤ maxLen ∧ (∀ p ∈ l, (Lit.int .i64 p.1).wf = true ∧ (Lit.int .i64 p.2).wf = true) ∧
      ReadsRow (fun (p : Int × Int) cs => cs = [.int .i64 p.1, .int .i64 p.2]) 2 w A l.length l := by
  rcases open_slice_pairs ht he ce o0 o1 c0 c1 h with ⟨rfl, _⟩ | ⟨a, len, cap, m, n, V0, V1, D0, D1, P0, P1, rfl, _, hl, hm, hmm, _, hx⟩
  · exact ⟨none, 0, [], rfl, Nat.le_refl _, Nat.zero_le _, by simp, rfl, by simp, fun h => absurd h (by simp)⟩
  · have hlm : len ≤ m := by rw [hmm]; split <;> omega
    have each : ∀ i, i < len → ∃ q : Int × Int, w.cell? (a.add (i * 2)) = some (.int .i64 q.1) ∧ w.cell? (a.add (i * 2 + 1)) = some (.int .i64 q.2) ∧ (Lit.int .i64 q.1).wf = true ∧ (Lit.int .i64 q.2).wf = true := by
      intro i hi
      obtain ⟨h0, h1, h2, h3⟩ := hx i (by omega)
      obtain ⟨y0, e0, _, w0⟩ := DataW.trod_int u0 h2
      obtain ⟨y1, e1, _, w1⟩ := DataW.trod_int u1 h3
      simp only [List.cons.injEq, and_true] at e0 e1
      rw [e0] at h0
      rw [e1] at h1
      exact ⟨(y0, y1), h0, h1, w0, w1⟩
    obtain ⟨q, hq⟩ := choose_lt each
    have hlen : ((List.range len).map q).length = len := by simp
    refine ⟨some a, cap, (List.range len).map q, by rw [hlen], by rw [hlen]; exact hl, hm, ?_, ?_⟩
    · intro p hp
      obtain ⟨i, hi, rfl⟩ := List.mem_map.1 hp
      exact (hq i (List.mem_range.1 hi)).2.2
    · refine ⟨rfl, by rw [hlen]; simp only [maxLen] at hm; omega, fun _ => ⟨a, rfl, fun j p hp => ?_⟩⟩
      have hj : j < len := by
        rw [← hlen]
        exact (List.getElem?_eq_some_iff.1 hp).1
      have hp2 : p = q j := by
        rw [List.getElem?_map, List.getElem?_range hj] at hp
        simpa using hp.symm
      subst hp2
      refine ⟨_, rfl, rfl, fun i u hu => ?_⟩
      match i, hu with
      | 0, hu =>
        simp only [List.getElem?_cons_zero, Option.some.injEq] at hu
        subst hu
        exact (hq j hj).1
      | 1, hu =>
        simp only [List.getElem?_cons_succ, List.getElem?_cons_zero, Option.some.injEq] at hu
        subst hu
        exact (hq j hj).2.1
      | i + 2, hu => simp at hu

/-- A slice of structs of three whole numbers, opened: its length, its capacity, its elements. -/
theorem open_triples {t e : TypeId} {f0 f1 f2 : Field} {fuel : Nat} {cs : List Value} {x : DataW H × List MemPlace} (ht : P.underlying t = some (.slice e)) (he : P.underlying e = some (.struct #[f0, f1, f2]))
    (ce : P.cellsOf e = 3) (o0 : f0.offset = 0) (o1 : f1.offset = 1) (o2 : f2.offset = 2) (c0 : P.cellsOf f0.type = 1) (c1 : P.cellsOf f1.type = 1) (c2 : P.cellsOf f2.type = 1)
    (u0 : P.underlying f0.type = some (.int .i64)) (u1 : P.underlying f1.type = some (.int .i64)) (u2 : P.underlying f2.type = some (.int .i64))
    (h : DataW.trod enc P w base spare held fuel t cs = some x) :
    ∃ (A : Option Addr) (c : Nat) (l : List (Int × Int × Int)), cs = [.slice A l.length c] ∧ l.length ≤ c ∧ c ≤ maxLen ∧ (∀ p ∈ l, (Lit.int .i64 p.1).wf = true ∧ (Lit.int .i64 p.2.1).wf = true ∧ (Lit.int .i64 p.2.2).wf = true) ∧
      ReadsRow (fun (p : Int × Int × Int) cs => cs = [.int .i64 p.1, .int .i64 p.2.1, .int .i64 p.2.2]) 3 w A l.length l := by
  rcases open_slice ht h with ⟨rfl, _⟩ | ⟨a, len, cap, m, n, D, Pl, rfl, _, hl, hm, hmm, _, hx⟩
  · exact ⟨none, 0, [], rfl, Nat.le_refl _, Nat.zero_le _, by simp, rfl, by simp, fun h => absurd h (by simp)⟩
  · have hlm : len ≤ m := by rw [hmm]; split <;> omega
    have each : ∀ i, i < len → ∃ q : Int × Int × Int, w.cell? (a.add (i * 3)) = some (.int .i64 q.1) ∧ w.cell? (a.add (i * 3 + 1)) = some (.int .i64 q.2.1) ∧ w.cell? (a.add (i * 3 + 2)) = some (.int .i64 q.2.2) ∧
        (Lit.int .i64 q.1).wf = true ∧ (Lit.int .i64 q.2.1).wf = true ∧ (Lit.int .i64 q.2.2).wf = true := by
      intro i hi
      obtain ⟨cs', h1, h2⟩ := hx i (by omega)
      rw [ce] at h1
      obtain ⟨_, hlen, hcell⟩ := World.cells?_some h1
      obtain ⟨y0, y1, y2, k, _, _, g0, g1, g2⟩ := trod_struct3 he h2
      match cs', hlen with
      | [v0, v1, v2], _ =>
        rw [o0, c0] at g0
        rw [o1, c1] at g1
        rw [o2, c2] at g2
        simp only [List.drop_zero, List.drop_succ_cons, List.take_succ_cons, List.take_zero] at g0 g1 g2
        obtain ⟨z0, e0, _, w0⟩ := DataW.trod_int u0 g0
        obtain ⟨z1, e1, _, w1⟩ := DataW.trod_int u1 g1
        obtain ⟨z2, e2, _, w2⟩ := DataW.trod_int u2 g2
        simp only [List.cons.injEq, and_true] at e0 e1 e2
        subst e0 e1 e2
        have k0 := hcell 0 (by omega)
        have k1 := hcell 1 (by omega)
        have k2 := hcell 2 (by omega)
        rw [add_add] at k0 k1 k2
        exact ⟨(z0, z1, z2), by simpa using k0, by simpa using k1, by simpa using k2, w0, w1, w2⟩
    obtain ⟨q, hq⟩ := choose_lt each
    have hlen : ((List.range len).map q).length = len := by simp
    refine ⟨some a, cap, (List.range len).map q, by rw [hlen], by rw [hlen]; exact hl, hm, ?_, ?_⟩
    · intro p hp
      obtain ⟨i, hi, rfl⟩ := List.mem_map.1 hp
      exact (hq i (List.mem_range.1 hi)).2.2.2
    · refine ⟨rfl, by rw [hlen]; simp only [maxLen] at hm; omega, fun _ => ⟨a, rfl, fun j p hp => ?_⟩⟩
      have hj : j < len := by
        rw [← hlen]
        exact (List.getElem?_eq_some_iff.1 hp).1
      have hp2 : p = q j := by
        rw [List.getElem?_map, List.getElem?_range hj] at hp
        simpa using hp.symm
      subst hp2
      refine ⟨_, rfl, rfl, fun i u hu => ?_⟩
      match i, hu with
      | 0, hu =>
        simp only [List.getElem?_cons_zero, Option.some.injEq] at hu
        subst hu
        exact (hq j hj).1
      | 1, hu =>
        simp only [List.getElem?_cons_succ, List.getElem?_cons_zero, Option.some.injEq] at hu
        subst hu
        exact (hq j hj).2.1
      | 2, hu =>
        simp only [List.getElem?_cons_succ, List.getElem?_cons_zero, Option.some.injEq] at hu
        subst hu
        exact (hq j hj).2.2.1
      | i + 3, hu => simp at hu

/-- A struct whose one field is a slice, by value. -/
theorem open_agg1 {r : Reach} {b0 : Nat} {t : TypeId} {f0 : Field} {v : Value} {d : DataW H} {p : List MemPlace} (hs : P.underlying t = some (.struct #[f0])) (o0 : f0.offset = 0) (k0 : P.cellsOf f0.type = 1) (hC : P.cellsOf t = 1)
    (hv : Value.okWide P w r b0 t v) (h : DataW.Trod enc P w base spare held t v d p) :
    ∃ (v0 : Value) (y0 : DataW H × List MemPlace) (n : Nat), v = .agg #[v0] ∧ DataW.trod enc P w base spare held n f0.type [v0] = some y0 := by
  obtain ⟨cs, rfl, hsz⟩ := okWide_struct hs hv
  obtain ⟨c0, rfl⟩ : ∃ c0, cs = #[c0] := by
    have h1 : cs.size = 1 := hsz.trans hC
    exact ⟨cs[0], by apply Array.ext <;> simp [h1]; intro i hi; have : i = 0 := by omega
                     subst this; rfl⟩
  obtain ⟨fuel, hf⟩ := h
  obtain ⟨y0, n, _, _, h0⟩ := trod_struct1 hs hf
  exact ⟨c0, y0, n, rfl, by simpa [Value.cells, o0, k0] using h0⟩

/-- A struct of three fields of one cell each, by value. -/
theorem open_agg3 {r : Reach} {b0 : Nat} {t : TypeId} {f0 f1 f2 : Field} {v : Value} {d : DataW H} {p : List MemPlace} (hs : P.underlying t = some (.struct #[f0, f1, f2])) (o0 : f0.offset = 0) (o1 : f1.offset = 1) (o2 : f2.offset = 2)
    (k0 : P.cellsOf f0.type = 1) (k1 : P.cellsOf f1.type = 1) (k2 : P.cellsOf f2.type = 1) (hC : P.cellsOf t = 3)
    (hv : Value.okWide P w r b0 t v) (h : DataW.Trod enc P w base spare held t v d p) :
    ∃ (v0 v1 v2 : Value) (y0 y1 y2 : DataW H × List MemPlace) (n : Nat), v = .agg #[v0, v1, v2] ∧ DataW.trod enc P w base spare held n f0.type [v0] = some y0 ∧ DataW.trod enc P w base spare held n f1.type [v1] = some y1 ∧ DataW.trod enc P w base spare held n f2.type [v2] = some y2 := by
  obtain ⟨cs, rfl, hsz⟩ := okWide_struct hs hv
  have h3 : cs.size = 3 := hsz.trans hC
  obtain ⟨l⟩ := cs
  match l, h3 with
  | [c0, c1, c2], _ =>
    obtain ⟨fuel, hf⟩ := h
    obtain ⟨y0, y1, y2, n, _, _, g0, g1, g2⟩ := trod_struct3 hs hf
    rw [o0, k0] at g0
    rw [o1, k1] at g1
    rw [o2, k2] at g2
    exact ⟨c0, c1, c2, y0, y1, y2, n, rfl, by simpa [Value.cells] using g0, by simpa [Value.cells] using g1, by simpa [Value.cells] using g2⟩
end

section
variable {H : Type} {enc : TypeId × Value → H} {w : World} {base : Nat} {spare : Nat → Bool} {held : Bool}
/-- The numbers of an int's range. -/
def Rng (n : Int) : Prop := -9223372036854775808 ≤ n ∧ n ≤ 9223372036854775807
theorem Rng.of_wf {n : Int} (h : (Lit.int .i64 n).wf = true) : Rng n := by
  simp [Lit.wf] at h
  exact h
def mkBand (p : Int × Int) : S70 := ⟨p.1, p.2⟩
def mkHold (p : Int × Int × Int) : S54 := ⟨p.1, p.2.1, p.2.2⟩

theorem reads_map {α β : Type} {d : Kd α} {sz : Nat} (f : β → α) (g : β → List Value) (hsz : d.sz = sz) (hg : ∀ p, (g p).length = sz) (hK : ∀ p, d.K w (f p) (g p)) {A : Option Addr} {l : List β}
    (h : ReadsRow (fun (p : β) cs => cs = g p) sz w A l.length l) : Kd.C d w A (l.map f).length (l.map f) := by
  obtain ⟨_, h2, h3⟩ := h
  refine ⟨rfl, by rw [List.length_map]; exact h2, fun hp => ?_⟩
  rw [List.length_map] at hp
  obtain ⟨ad, e, hc⟩ := h3 hp
  refine ⟨ad, e, fun j p hj => ?_⟩
  rw [List.getElem?_map] at hj
  obtain ⟨q, hq, rfl⟩ := Option.map_eq_some_iff.1 hj
  obtain ⟨c, hlen, rfl, hcell⟩ := hc j q hq
  exact ⟨_, by rw [hsz]; exact hg q, hK q, fun i u hu => by rw [hsz]; exact hcell i u hu⟩

set_option maxRecDepth 100000 in
theorem open_tariff {b0 : Nat} {v : Value} {d : DataW H} {p : List MemPlace} (hv : Value.okWide Tryd.prog w .any b0 24 v) (h : DataW.Trod enc Tryd.prog w base spare held 24 v d p) :
    ∃ (A : Option Addr) (c : Nat) (l : List S70), v = .agg #[.slice A l.length c] ∧ l.length ≤ c ∧ l.length ≤ 9223372036854775807 ∧ (∀ x ∈ l, Rng x.f0 ∧ Rng x.f1) ∧ Kd.C k70 w A l.length l := by
  obtain ⟨v0, y0, n, rfl, h0⟩ := open_agg1 Tryd.underlying24 (by kernel_rfl) (by kernel_rfl) (by kernel_rfl) hv h
  obtain ⟨A, c, l, hcs, hl, hm, hw, hr⟩ := open_pairs Tryd.underlying22 Tryd.underlying70 (by kernel_rfl) rfl rfl (by kernel_rfl) (by kernel_rfl) (by kernel_rfl) (by kernel_rfl) h0
  simp only [List.cons.injEq, and_true] at hcs
  subst hcs
  have hR := reads_map (d := k70) mkBand (fun p => [.int .i64 p.1, .int .i64 p.2]) rfl (fun _ => rfl) (fun p => k70_mk w (mkBand p)) hr
  have hlen : (l.map mkBand).length = l.length := List.length_map ..
  refine ⟨A, c, l.map mkBand, by rw [hlen], by rw [hlen]; exact hl, by rw [hlen]; simp only [maxLen] at hm; omega, ?_, hR⟩
  intro x hx
  obtain ⟨q, hq, rfl⟩ := List.mem_map.1 hx
  exact ⟨Rng.of_wf (hw q hq).1, Rng.of_wf (hw q hq).2⟩

set_option maxRecDepth 100000 in
theorem open_account {b0 : Nat} {v : Value} {d : DataW H} {p : List MemPlace} (hv : Value.okWide Tryd.prog w .any b0 31 v) (h : DataW.Trod enc Tryd.prog w base spare held 31 v d p) :
    ∃ (s : ByteArray) (b : Int) (A : Option Addr) (c : Nat) (l : List S54), v = .agg #[.string s, .int .i64 b, .slice A l.length c] ∧ s.size ≤ maxLen ∧ Rng b ∧ l.length ≤ c ∧ l.length ≤ 9223372036854775807 ∧ (∀ x ∈ l, Rng x.f0 ∧ Rng x.f1 ∧ Rng x.f2) ∧ Kd.C k54 w A l.length l := by
  obtain ⟨v0, v1, v2, y0, y1, y2, n, rfl, h0, h1, h2⟩ := open_agg3 Tryd.underlying31 rfl rfl rfl (by kernel_rfl) (by kernel_rfl) (by kernel_rfl) (by kernel_rfl) hv h
  obtain ⟨s, hs1, _, hs2⟩ := DataW.trod_string (by kernel_rfl) h0
  obtain ⟨b, hb1, _, hb2⟩ := DataW.trod_int (k := .i64) (by kernel_rfl) h1
  obtain ⟨A, c, l, hcs, hl, hm, hw, hr⟩ := open_triples Tryd.underlying29 Tryd.underlying54 (by kernel_rfl) rfl rfl rfl (by kernel_rfl) (by kernel_rfl) (by kernel_rfl) (by kernel_rfl) (by kernel_rfl) (by kernel_rfl) h2
  simp only [List.cons.injEq, and_true] at hs1 hb1 hcs
  subst hs1 hb1 hcs
  have hR := reads_map (d := k54) mkHold (fun p => [.int .i64 p.1, .int .i64 p.2.1, .int .i64 p.2.2]) rfl (fun _ => rfl) (fun p => k54_mk w (mkHold p)) hr
  have hlen : (l.map mkHold).length = l.length := List.length_map ..
  refine ⟨s, b, A, c, l.map mkHold, by rw [hlen], hs2, Rng.of_wf hb2, by rw [hlen]; exact hl, by rw [hlen]; simp only [maxLen] at hm; omega, ?_, hR⟩
  intro x hx
  obtain ⟨q, hq, rfl⟩ := List.mem_map.1 hx
  exact ⟨Rng.of_wf (hw q hq).1, Rng.of_wf (hw q hq).2.1, Rng.of_wf (hw q hq).2.2⟩
end
end Go.Proofs.YtldpacphackdjaaDoor.Print
