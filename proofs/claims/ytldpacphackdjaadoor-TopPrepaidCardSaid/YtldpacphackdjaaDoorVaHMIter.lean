/- That (*cutter).changes hands back its iterator, and what the iterator does: no round where nothing changes up to a time; one round where the one change is at that time. -/
import Derived.Test.YtldpacphackdjaaDoorVa4
import Derived.TacticsInMore
import Derived.OwnWalkIn
import Derived.LoopIn
import Derived.BigRegion
namespace Go.Proofs.YtldpacphackdjaaDoor.Print
open Go.RowKit Go.Proofs.YtldpacphackdjaaDoorW.PrintWords Go.Proofs.YtldpacphackdjaaDoorW.PrintLast Go.Proofs.YtldpacphackdjaaDoorW.PrintMore
set_option linter.unusedVariables false
set_option linter.unusedSimpArgs false
theorem grow_below {w w1 w2 : World} {r : Option Nat} (h : w.grownBy w1 r) (k : Below w1.heap.size w1 w2) : w.grownBy w2 r :=
  ⟨k.os.trans h.os, k.tape.trans h.tape, k.output.trans h.output, Nat.le_trans h.size k.size, fun i hi hr => (k.block i (Nat.lt_of_lt_of_le hi h.size)).trans (h.block i hi hr)⟩
set_option maxRecDepth 100000 in
theorem changes_calls (gc : Nat) (a b : Int) (w : World) : Calls Tryd.prog 73 #[.pointer (some ⟨gc, 0, none⟩), .int .i64 a, .int .i64 b] w fun e w' => ∃ g1 g2 g3, e = .returned (.func (.func 91) #[] #[.pointer (some ⟨g1, 0, none⟩), .pointer (some ⟨g2, 0, none⟩), .pointer (some ⟨g3, 0, none⟩)]) ∧ w'.heap[g1]? = some (.cells #[.pointer (some ⟨gc, 0, none⟩)] 89 (0, 0)) ∧ w'.heap[g2]? = some (.cells #[.int .i64 a] 3 (0, 0)) ∧ w'.heap[g3]? = some (.cells #[.int .i64 b] 3 (0, 0)) ∧ w.heap.size ≤ g1 ∧ g1 < g2 ∧ g2 < g3 ∧ Below w.heap.size w w' := by
  go_enter Tryd.func73, Tryd.ntmps73
  go_wp2
  go_ret
  exact ⟨_, _, _, rfl, blk_alloc (blk_alloc (blk_new w _) _) _, blk_alloc (by have h_ := blk_new (w.alloc (.cells #[.pointer (some ⟨gc, 0, none⟩)] 89)) (.cells #[.int .i64 a] 3); rwa [World.size_alloc] at h_) _, by have h_ := blk_new ((w.alloc (.cells #[.pointer (some ⟨gc, 0, none⟩)] 89)).alloc (.cells #[.int .i64 a] 3)) (.cells #[.int .i64 b] 3); rwa [World.size_alloc, World.size_alloc] at h_, Nat.le_refl _, by omega, by omega, below_alloc (below_alloc (below_alloc (Below.refl _ _) _) _) _⟩
set_option maxRecDepth 100000 in
theorem iter_flat (l : Nat) (g1 g2 g3 gc : Nat) (A1 : Option Addr) (c1 : Nat) (lb : List S70) (v0 : Value) (fr tx : Int) (w : World) (b1 : w.heap[g1]? = some (.cells #[.pointer (some ⟨gc, 0, none⟩)] 89 (0, 0))) (b2 : w.heap[g2]? = some (.cells #[.int .i64 fr] 3 (0, 0))) (b3 : w.heap[g3]? = some (.cells #[.int .i64 tx] 3 (0, 0))) (bc : w.heap[gc]? = some (.cells #[.slice A1 lb.length c1, v0] 95 (0, 0))) (hr : Kd.C k70 w A1 lb.length lb) (hl : lb.length ≤ c1) (hlb : lb.length ≤ 1000 ∧ 0 < lb.length) (hfl : flatB lb) :
    Calls Tryd.prog 91 #[.func (.yield l) #[] #[], .pointer (some ⟨g1, 0, none⟩), .pointer (some ⟨g2, 0, none⟩), .pointer (some ⟨g3, 0, none⟩)] w fun e w' => (∃ v, e = .returned v) ∧ Below w.heap.size w w' := by
  have hu95 := Tryd.underlying95
  have hu24 := Tryd.underlying24
  have BK1 := Aside0.mk b1
  have BK2 := Aside0.mk b2
  have BK3 := Aside0.mk b3
  have BKC := Aside0.mk bc
  have HCR := Aside0.mk hr
  have HL := Aside0.mk hl
  have LB := Aside0.mk hlb
  clear b1 b2 b3 bc hr hl hlb
  have FL := Aside0.mk hfl
  clear hfl
  have hcz1 : w.cell? ⟨g1, 0, none⟩ = some (.pointer (some ⟨gc, 0, none⟩)) := (blk_cell BK1.out 0).trans rfl
  go_enter Tryd.func91, Tryd.ntmps91
  go_wp2_with (go_at_call 92; (with_reducible refine (flat_calls gc A1 c1 lb _ HCR.out LB.out.1 LB.out.2 ((blk_cell BKC.out 0).trans rfl)).mono ?_); rintro e w1 ⟨⟨b_, rfl, hbb⟩, hb⟩; obtain rfl : b_ = true := (hbb.2 FL.out))
  refine bodyPost_ret (results_none rfl _ _ _) rfl ?_
  exact ⟨⟨_, rfl⟩, hb⟩
def meter_iter.T1 : Bool × List (List Nat × List Nat) := (true, [([], []), ([0], [0]), ([1], [1]), ([2], [2]), ([], []), ([3, 4], [3, 4]), ([5], [5]), ([6], [6]), ([6], [6]), ([6], [6]), ([7, 5, 0, 1, 2, 3, 4, 5, 6, 7], [7]), ([8, 10, 0, 1, 2, 3, 4, 5, 6, 7, 8, 10], [8]), ([9, 11, 0, 1, 2, 3, 4, 5, 6, 7, 8, 9, 10, 11], [9])])
def meter_iter.B1 : List Nat := [0, 1, 3, 7, 0, 31, 63, 127, 127, 127, 255, 1535, 4095]
theorem meter_iter.tab1 : rtab .any (opsOf Tryd.f91 1) = meter_iter.T1 := by kernel_rfl
theorem meter_iter.bits1 : waitsOk meter_iter.T1.2 meter_iter.B1 = true := by kernel_rfl

set_option maxHeartbeats 4000000 in
set_option maxRecDepth 100000 in
theorem iter_never (l : Nat) (g1 g2 g3 gc : Nat) (A1 : Option Addr) (c1 : Nat) (lb : List S70) (v0 : Value) (fr tx : Int) (nx : Int) (w : World) (b1 : w.heap[g1]? = some (.cells #[.pointer (some ⟨gc, 0, none⟩)] 89 (0, 0))) (b2 : w.heap[g2]? = some (.cells #[.int .i64 fr] 3 (0, 0))) (b3 : w.heap[g3]? = some (.cells #[.int .i64 tx] 3 (0, 0))) (bc : w.heap[gc]? = some (.cells #[.slice A1 lb.length c1, v0] 95 (0, 0))) (hr : Kd.C k70 w A1 lb.length lb) (hl : lb.length ≤ c1) (hlb : lb.length ≤ 1000 ∧ 0 < lb.length) (hnf : ¬ flatB lb) (hce : tariff_Change.f 100 lb fr = some (nx, false, 0)) :
    Calls Tryd.prog 91 #[.func (.yield l) #[] #[], .pointer (some ⟨g1, 0, none⟩), .pointer (some ⟨g2, 0, none⟩), .pointer (some ⟨g3, 0, none⟩)] w fun e w' => (∃ v, e = .returned v) ∧ Below w.heap.size w w' := by
  have hu95 := Tryd.underlying95
  have hu24 := Tryd.underlying24
  have BK1 := Aside0.mk b1
  have BK2 := Aside0.mk b2
  have BK3 := Aside0.mk b3
  have BKC := Aside0.mk bc
  have HCR := Aside0.mk hr
  have HL := Aside0.mk hl
  have LB := Aside0.mk hlb
  clear b1 b2 b3 bc hr hl hlb
  have NF := Aside0.mk hnf
  have CE := Aside0.mk hce
  clear hnf hce
  have hcz1 : w.cell? ⟨g1, 0, none⟩ = some (.pointer (some ⟨gc, 0, none⟩)) := (blk_cell BK1.out 0).trans rfl
  go_enter Tryd.func91, Tryd.ntmps91
  go_wp2_with (go_at_call 92; (with_reducible refine (flat_calls gc A1 c1 lb _ HCR.out LB.out.1 LB.out.2 ((blk_cell BKC.out 0).trans rfl)).mono ?_); rintro e w1 ⟨⟨b_, rfl, hbb⟩, hb⟩; obtain rfl : b_ = false := (by cases b_ with | false => rfl | true => exact absurd (hbb.1 rfl) NF.out); clear hbb hcz1; have M1_ := Aside0.mk (blk_below BK1.out hb); have M2_ := Aside0.mk (blk_below BK2.out hb); have M3_ := Aside0.mk (blk_below BK3.out hb); have MC_ := Aside0.mk (blk_below BKC.out hb); have MR_ := Aside0.mk (Kd.C_below HCR.out hb); clear BK1 BK2 BK3 BKC HCR; have BK1 := M1_; have BK2 := M2_; have BK3 := M3_; have BKC := MC_; have HCR := MR_; clear M1_ M2_ M3_ MC_ MR_; have H1 := Aside0.mk hb; clear hb)
  go_loopg [] 1 (fun kx wr => Aside0 (wr = w1))
  case atStart => exact ⟨rfl⟩
  case round =>
    obtain rfl := hrel.out
    clear hrel
    try go_wp2
    have T0 := Aside0.mk ((blk_cell BK1.out 0).trans rfl : wr.cell? ⟨g1, 0, none⟩ = some (.pointer (some ⟨gc, 0, none⟩)))
    have T1 := Aside0.mk ((blk_cell BKC.out 0).trans rfl : wr.cell? ⟨gc, 0, none⟩ = some (.slice A1 lb.length c1))
    have T2 := Aside0.mk ((blk_cell BK2.out 0).trans rfl : wr.cell? ⟨g2, 0, none⟩ = some (.int .i64 fr))
    have BD := Aside0.mk (below_drew (Below.refl wr.heap.size wr))
    refine start_ (n := 13) (S := fun w' => w'.cell? ⟨g1, 0, none⟩ = some (.pointer (some ⟨gc, 0, none⟩)) ∧ w'.cell? ⟨gc, 0, none⟩ = some (.slice A1 lb.length c1) ∧ w'.cell? ⟨g2, 0, none⟩ = some (.int .i64 fr)) (ds := []) #[false, false, false, false, false, false, false, false, false, false, false, false, false] (by kernel_rfl) rfl rfl ⟨T0.out, T1.out, T2.out⟩ (fun hHeld => ?_)
    generalize wr.drew = w8 at BD hHeld ⊢
    refine with_tabW meter_iter.tab1 meter_iter.bits1 (fun HT_ HW_ => ?_)
    refine take_ (i := 0) (N := some 11) (v := ?_) (a' := ?_) #[true, false, false, false, false, false, false, false, false, false, false, false, false] rfl rfl (take_ofW HT_.out HW_.out (by kernel_rfl)) (fun _ _ _ h => h) (Or.inl ⟨by rfl, ?_⟩) hHeld ?_ ?_
    rotate_left
    · rintro w' ⟨s0, s1, s2⟩
      go_simp
      with_reducible rfl
    rotate_left
    · simp only [Act.put, List.setIfInBounds_toArray, List.set_cons_zero, List.set_cons_succ, i64_w, i32_w]
      rfl
    refine pure_ (i := 1) (N := some 12) (v := ?_) (a' := ?_) #[true, true, false, false, false, false, false, false, false, false, false, false, false] rfl rfl (any_of HT_.out (by kernel_rfl)) (fun _ _ _ h => h) (Or.inl ⟨by rfl, ?_⟩) ?_ ?_
    rotate_left
    · intro w'
      go_simp
      with_reducible rfl
    rotate_left
    · simp only [Act.put, List.setIfInBounds_toArray, List.set_cons_zero, List.set_cons_succ, i64_w, i32_w]
      rfl
    refine pure_ (i := 2) (N := some 13) (v := ?_) (a' := ?_) #[true, true, true, false, false, false, false, false, false, false, false, false, false] rfl rfl (any_of HT_.out (by kernel_rfl)) (fun _ _ _ h => h) (Or.inl ⟨by rfl, ?_⟩) ?_ ?_
    rotate_left
    · intro w'
      go_simp
      with_reducible rfl
    rotate_left
    · simp only [Act.put, List.setIfInBounds_toArray, List.set_cons_zero, List.set_cons_succ, i64_w, i32_w]
      rfl
    refine take_ (i := 3) (N := some 14) (v := ?_) (a' := ?_) #[true, true, true, true, false, false, false, false, false, false, false, false, false] rfl rfl (take_ofW HT_.out HW_.out (by kernel_rfl)) (fun _ _ _ h => h) (Or.inl ⟨by rfl, ?_⟩) hHeld ?_ ?_
    rotate_left
    · rintro w' ⟨s0, s1, s2⟩
      go_simp
      with_reducible rfl
    rotate_left
    · simp only [Act.put, List.setIfInBounds_toArray, List.set_cons_zero, List.set_cons_succ, i64_w, i32_w]
      rfl
    refine take_ (i := 4) (N := some 15) (v := ?_) (a' := ?_) #[true, true, true, true, true, false, false, false, false, false, false, false, false] rfl rfl (take_ofW HT_.out HW_.out (by kernel_rfl)) (fun _ _ _ h => h) (Or.inl ⟨by rfl, ?_⟩) hHeld ?_ ?_
    rotate_left
    · rintro w' ⟨s0, s1, s2⟩
      go_simp
      with_reducible rfl
    rotate_left
    · simp only [Act.put, List.setIfInBounds_toArray, List.set_cons_zero, List.set_cons_succ, i64_w, i32_w]
      rfl
    refine one_ (i := 5) (N := some 16) #[true, true, true, true, true, true, false, false, false, false, false, false, false] rfl rfl (one_of HT_.out (by kernel_rfl)) (by decide) (fun K hK => ?_)
    refine goes_ Tryd.func93 (by kernel_rfl) rfl #[.agg #[.slice A1 lb.length c1], .int .i64 fr] (by rfl) rfl rfl (by simp only [List.map_toArray, List.map_cons, List.map_nil]; rfl) ?_
    with_reducible refine (tariff_Change.calls 100 A1 c1 lb fr nx false 0 _ (Kd.C_below HCR.out BD.out) HL.out CE.out).mono ?_
    rintro e wB ⟨rfl, hb9⟩
    refine ⟨_, rfl, ?_⟩
    have BD3 := Aside0.mk (below_step BD.out hb9)
    clear hb9
    refine hK.out _ _ ⟨(BD3.out.cell (World.block_lt_of_cell? wr _ T0.out)).trans T0.out, (BD3.out.cell (World.block_lt_of_cell? wr _ T1.out)).trans T1.out, (BD3.out.cell (World.block_lt_of_cell? wr _ T2.out)).trans T2.out⟩ (fun hHeld => ?_)
    clear hK K
    refine norm_ (a' := ?_) ?_ ?_
    rotate_left
    · show Act.put _ (some 16) _ = _
      simp only [Act.put, List.setIfInBounds_toArray, List.set_cons_zero, List.set_cons_succ, i64_w, i32_w]
      rfl
    refine pure_ (i := 6) (N := some 10) (v := ?_) (a' := ?_) #[true, true, true, true, true, true, true, false, false, false, false, false, false] rfl rfl (any_of HT_.out (by kernel_rfl)) (fun _ _ _ h => h) (Or.inl ⟨by rfl, ?_⟩) ?_ ?_
    rotate_left
    · intro w'
      go_simp
      with_reducible rfl
    rotate_left
    · simp only [Act.put, List.setIfInBounds_toArray, List.set_cons_zero, List.set_cons_succ, i64_w, i32_w]
      rfl
    refine pure_ (i := 7) (N := some 17) (v := ?_) (a' := ?_) #[true, true, true, true, true, true, true, true, false, false, false, false, false] rfl rfl (any_of HT_.out (by kernel_rfl)) (fun _ _ _ h => h) (Or.inl ⟨by rfl, ?_⟩) ?_ ?_
    rotate_left
    · intro w'
      go_simp
      with_reducible rfl
    rotate_left
    · simp only [Act.put, List.setIfInBounds_toArray, List.set_cons_zero, List.set_cons_succ, i64_w, i32_w]
      rfl
    refine pure_ (i := 8) (N := some 18) (v := ?_) (a' := ?_) #[true, true, true, true, true, true, true, true, true, false, false, false, false] rfl rfl (any_of HT_.out (by kernel_rfl)) (fun _ _ _ h => h) (Or.inl ⟨by rfl, ?_⟩) ?_ ?_
    rotate_left
    · intro w'
      go_simp
      with_reducible rfl
    rotate_left
    · simp only [Act.put, List.setIfInBounds_toArray, List.set_cons_zero, List.set_cons_succ, i64_w, i32_w]
      rfl
    refine pure_ (i := 9) (N := some 19) (v := ?_) (a' := ?_) #[true, true, true, true, true, true, true, true, true, true, false, false, false] rfl rfl (any_of HT_.out (by kernel_rfl)) (fun _ _ _ h => h) (Or.inl ⟨by rfl, ?_⟩) ?_ ?_
    rotate_left
    · intro w'
      go_simp
      with_reducible rfl
    rotate_left
    · simp only [Act.put, List.setIfInBounds_toArray, List.set_cons_zero, List.set_cons_succ, i64_w, i32_w]
      rfl
    refine pure_ (i := 10) (N := some 5) (v := ?_) (a' := ?_) #[true, true, true, true, true, true, true, true, true, true, true, false, false] rfl rfl (any_of HT_.out (by kernel_rfl)) (fun _ _ _ h => h) (Or.inl ⟨by rfl, ?_⟩) ?_ ?_
    rotate_left
    · intro w'
      go_simp
      with_reducible rfl
    rotate_left
    · simp only [Act.put, List.setIfInBounds_toArray, List.set_cons_zero, List.set_cons_succ, i64_w, i32_w]
      rfl
    refine pure_ (i := 11) (N := some 6) (v := ?_) (a' := ?_) #[true, true, true, true, true, true, true, true, true, true, true, true, false] rfl rfl (any_of HT_.out (by kernel_rfl)) (fun _ _ _ h => h) (Or.inl ⟨by rfl, ?_⟩) ?_ ?_
    rotate_left
    · intro w'
      go_simp
      with_reducible rfl
    rotate_left
    · simp only [Act.put, List.setIfInBounds_toArray, List.set_cons_zero, List.set_cons_succ, i64_w, i32_w]
      rfl
    refine pure_ (i := 12) (N := some 7) (v := ?_) (a' := ?_) #[true, true, true, true, true, true, true, true, true, true, true, true, true] rfl rfl (any_of HT_.out (by kernel_rfl)) (fun _ _ _ h => h) (Or.inl ⟨by rfl, ?_⟩) ?_ ?_
    rotate_left
    · intro w'
      go_simp
      with_reducible rfl
    rotate_left
    · simp only [Act.put, List.setIfInBounds_toArray, List.set_cons_zero, List.set_cons_succ, i64_w, i32_w]
      rfl
    refine done_ (done_of HT_.out (by kernel_rfl)) ?_
    
    clear T0 T1 T2 BD
    have E1 := Aside0.mk (blk_below BK1.out BD3.out)
    have E2 := Aside0.mk (blk_below BK2.out BD3.out)
    have E3 := Aside0.mk (blk_below BK3.out BD3.out)
    have EC := Aside0.mk (blk_below BKC.out BD3.out)
    skip
    go_wp2
    refine bodyPost_ret (results_none rfl _ _ _) rfl ?_
    exact ⟨⟨_, rfl⟩, below_step H1.out BD3.out⟩

set_option maxHeartbeats 4000000 in
set_option maxRecDepth 100000 in
theorem iter_later (l : Nat) (g1 g2 g3 gc : Nat) (A1 : Option Addr) (c1 : Nat) (lb : List S70) (v0 : Value) (fr tx : Int) (nx : Int) (w : World) (b1 : w.heap[g1]? = some (.cells #[.pointer (some ⟨gc, 0, none⟩)] 89 (0, 0))) (b2 : w.heap[g2]? = some (.cells #[.int .i64 fr] 3 (0, 0))) (b3 : w.heap[g3]? = some (.cells #[.int .i64 tx] 3 (0, 0))) (bc : w.heap[gc]? = some (.cells #[.slice A1 lb.length c1, v0] 95 (0, 0))) (hr : Kd.C k70 w A1 lb.length lb) (hl : lb.length ≤ c1) (hlb : lb.length ≤ 1000 ∧ 0 < lb.length) (hnf : ¬ flatB lb) (hce : tariff_Change.f 100 lb fr = some (nx, true, 0)) (hgt : tx < nx) :
    Calls Tryd.prog 91 #[.func (.yield l) #[] #[], .pointer (some ⟨g1, 0, none⟩), .pointer (some ⟨g2, 0, none⟩), .pointer (some ⟨g3, 0, none⟩)] w fun e w' => (∃ v, e = .returned v) ∧ Below w.heap.size w w' := by
  have hu95 := Tryd.underlying95
  have hu24 := Tryd.underlying24
  have BK1 := Aside0.mk b1
  have BK2 := Aside0.mk b2
  have BK3 := Aside0.mk b3
  have BKC := Aside0.mk bc
  have HCR := Aside0.mk hr
  have HL := Aside0.mk hl
  have LB := Aside0.mk hlb
  clear b1 b2 b3 bc hr hl hlb
  have NF := Aside0.mk hnf
  have CE := Aside0.mk hce
  clear hnf hce
  have hcz1 : w.cell? ⟨g1, 0, none⟩ = some (.pointer (some ⟨gc, 0, none⟩)) := (blk_cell BK1.out 0).trans rfl
  go_enter Tryd.func91, Tryd.ntmps91
  go_wp2_with (go_at_call 92; (with_reducible refine (flat_calls gc A1 c1 lb _ HCR.out LB.out.1 LB.out.2 ((blk_cell BKC.out 0).trans rfl)).mono ?_); rintro e w1 ⟨⟨b_, rfl, hbb⟩, hb⟩; obtain rfl : b_ = false := (by cases b_ with | false => rfl | true => exact absurd (hbb.1 rfl) NF.out); clear hbb hcz1; have M1_ := Aside0.mk (blk_below BK1.out hb); have M2_ := Aside0.mk (blk_below BK2.out hb); have M3_ := Aside0.mk (blk_below BK3.out hb); have MC_ := Aside0.mk (blk_below BKC.out hb); have MR_ := Aside0.mk (Kd.C_below HCR.out hb); clear BK1 BK2 BK3 BKC HCR; have BK1 := M1_; have BK2 := M2_; have BK3 := M3_; have BKC := MC_; have HCR := MR_; clear M1_ M2_ M3_ MC_ MR_; have H1 := Aside0.mk hb; clear hb)
  go_loopg [] 1 (fun kx wr => Aside0 (wr = w1))
  case atStart => exact ⟨rfl⟩
  case round =>
    obtain rfl := hrel.out
    clear hrel
    try go_wp2
    have T0 := Aside0.mk ((blk_cell BK1.out 0).trans rfl : wr.cell? ⟨g1, 0, none⟩ = some (.pointer (some ⟨gc, 0, none⟩)))
    have T1 := Aside0.mk ((blk_cell BKC.out 0).trans rfl : wr.cell? ⟨gc, 0, none⟩ = some (.slice A1 lb.length c1))
    have T2 := Aside0.mk ((blk_cell BK2.out 0).trans rfl : wr.cell? ⟨g2, 0, none⟩ = some (.int .i64 fr))
    have BD := Aside0.mk (below_drew (Below.refl wr.heap.size wr))
    refine start_ (n := 13) (S := fun w' => w'.cell? ⟨g1, 0, none⟩ = some (.pointer (some ⟨gc, 0, none⟩)) ∧ w'.cell? ⟨gc, 0, none⟩ = some (.slice A1 lb.length c1) ∧ w'.cell? ⟨g2, 0, none⟩ = some (.int .i64 fr)) (ds := []) #[false, false, false, false, false, false, false, false, false, false, false, false, false] (by kernel_rfl) rfl rfl ⟨T0.out, T1.out, T2.out⟩ (fun hHeld => ?_)
    generalize wr.drew = w8 at BD hHeld ⊢
    refine with_tabW meter_iter.tab1 meter_iter.bits1 (fun HT_ HW_ => ?_)
    refine take_ (i := 0) (N := some 11) (v := ?_) (a' := ?_) #[true, false, false, false, false, false, false, false, false, false, false, false, false] rfl rfl (take_ofW HT_.out HW_.out (by kernel_rfl)) (fun _ _ _ h => h) (Or.inl ⟨by rfl, ?_⟩) hHeld ?_ ?_
    rotate_left
    · rintro w' ⟨s0, s1, s2⟩
      go_simp
      with_reducible rfl
    rotate_left
    · simp only [Act.put, List.setIfInBounds_toArray, List.set_cons_zero, List.set_cons_succ, i64_w, i32_w]
      rfl
    refine pure_ (i := 1) (N := some 12) (v := ?_) (a' := ?_) #[true, true, false, false, false, false, false, false, false, false, false, false, false] rfl rfl (any_of HT_.out (by kernel_rfl)) (fun _ _ _ h => h) (Or.inl ⟨by rfl, ?_⟩) ?_ ?_
    rotate_left
    · intro w'
      go_simp
      with_reducible rfl
    rotate_left
    · simp only [Act.put, List.setIfInBounds_toArray, List.set_cons_zero, List.set_cons_succ, i64_w, i32_w]
      rfl
    refine pure_ (i := 2) (N := some 13) (v := ?_) (a' := ?_) #[true, true, true, false, false, false, false, false, false, false, false, false, false] rfl rfl (any_of HT_.out (by kernel_rfl)) (fun _ _ _ h => h) (Or.inl ⟨by rfl, ?_⟩) ?_ ?_
    rotate_left
    · intro w'
      go_simp
      with_reducible rfl
    rotate_left
    · simp only [Act.put, List.setIfInBounds_toArray, List.set_cons_zero, List.set_cons_succ, i64_w, i32_w]
      rfl
    refine take_ (i := 3) (N := some 14) (v := ?_) (a' := ?_) #[true, true, true, true, false, false, false, false, false, false, false, false, false] rfl rfl (take_ofW HT_.out HW_.out (by kernel_rfl)) (fun _ _ _ h => h) (Or.inl ⟨by rfl, ?_⟩) hHeld ?_ ?_
    rotate_left
    · rintro w' ⟨s0, s1, s2⟩
      go_simp
      with_reducible rfl
    rotate_left
    · simp only [Act.put, List.setIfInBounds_toArray, List.set_cons_zero, List.set_cons_succ, i64_w, i32_w]
      rfl
    refine take_ (i := 4) (N := some 15) (v := ?_) (a' := ?_) #[true, true, true, true, true, false, false, false, false, false, false, false, false] rfl rfl (take_ofW HT_.out HW_.out (by kernel_rfl)) (fun _ _ _ h => h) (Or.inl ⟨by rfl, ?_⟩) hHeld ?_ ?_
    rotate_left
    · rintro w' ⟨s0, s1, s2⟩
      go_simp
      with_reducible rfl
    rotate_left
    · simp only [Act.put, List.setIfInBounds_toArray, List.set_cons_zero, List.set_cons_succ, i64_w, i32_w]
      rfl
    refine one_ (i := 5) (N := some 16) #[true, true, true, true, true, true, false, false, false, false, false, false, false] rfl rfl (one_of HT_.out (by kernel_rfl)) (by decide) (fun K hK => ?_)
    refine goes_ Tryd.func93 (by kernel_rfl) rfl #[.agg #[.slice A1 lb.length c1], .int .i64 fr] (by rfl) rfl rfl (by simp only [List.map_toArray, List.map_cons, List.map_nil]; rfl) ?_
    with_reducible refine (tariff_Change.calls 100 A1 c1 lb fr nx true 0 _ (Kd.C_below HCR.out BD.out) HL.out CE.out).mono ?_
    rintro e wB ⟨rfl, hb9⟩
    refine ⟨_, rfl, ?_⟩
    have BD3 := Aside0.mk (below_step BD.out hb9)
    clear hb9
    refine hK.out _ _ ⟨(BD3.out.cell (World.block_lt_of_cell? wr _ T0.out)).trans T0.out, (BD3.out.cell (World.block_lt_of_cell? wr _ T1.out)).trans T1.out, (BD3.out.cell (World.block_lt_of_cell? wr _ T2.out)).trans T2.out⟩ (fun hHeld => ?_)
    clear hK K
    refine norm_ (a' := ?_) ?_ ?_
    rotate_left
    · show Act.put _ (some 16) _ = _
      simp only [Act.put, List.setIfInBounds_toArray, List.set_cons_zero, List.set_cons_succ, i64_w, i32_w]
      rfl
    refine pure_ (i := 6) (N := some 10) (v := ?_) (a' := ?_) #[true, true, true, true, true, true, true, false, false, false, false, false, false] rfl rfl (any_of HT_.out (by kernel_rfl)) (fun _ _ _ h => h) (Or.inl ⟨by rfl, ?_⟩) ?_ ?_
    rotate_left
    · intro w'
      go_simp
      with_reducible rfl
    rotate_left
    · simp only [Act.put, List.setIfInBounds_toArray, List.set_cons_zero, List.set_cons_succ, i64_w, i32_w]
      rfl
    refine pure_ (i := 7) (N := some 17) (v := ?_) (a' := ?_) #[true, true, true, true, true, true, true, true, false, false, false, false, false] rfl rfl (any_of HT_.out (by kernel_rfl)) (fun _ _ _ h => h) (Or.inl ⟨by rfl, ?_⟩) ?_ ?_
    rotate_left
    · intro w'
      go_simp
      with_reducible rfl
    rotate_left
    · simp only [Act.put, List.setIfInBounds_toArray, List.set_cons_zero, List.set_cons_succ, i64_w, i32_w]
      rfl
    refine pure_ (i := 8) (N := some 18) (v := ?_) (a' := ?_) #[true, true, true, true, true, true, true, true, true, false, false, false, false] rfl rfl (any_of HT_.out (by kernel_rfl)) (fun _ _ _ h => h) (Or.inl ⟨by rfl, ?_⟩) ?_ ?_
    rotate_left
    · intro w'
      go_simp
      with_reducible rfl
    rotate_left
    · simp only [Act.put, List.setIfInBounds_toArray, List.set_cons_zero, List.set_cons_succ, i64_w, i32_w]
      rfl
    refine pure_ (i := 9) (N := some 19) (v := ?_) (a' := ?_) #[true, true, true, true, true, true, true, true, true, true, false, false, false] rfl rfl (any_of HT_.out (by kernel_rfl)) (fun _ _ _ h => h) (Or.inl ⟨by rfl, ?_⟩) ?_ ?_
    rotate_left
    · intro w'
      go_simp
      with_reducible rfl
    rotate_left
    · simp only [Act.put, List.setIfInBounds_toArray, List.set_cons_zero, List.set_cons_succ, i64_w, i32_w]
      rfl
    refine pure_ (i := 10) (N := some 5) (v := ?_) (a' := ?_) #[true, true, true, true, true, true, true, true, true, true, true, false, false] rfl rfl (any_of HT_.out (by kernel_rfl)) (fun _ _ _ h => h) (Or.inl ⟨by rfl, ?_⟩) ?_ ?_
    rotate_left
    · intro w'
      go_simp
      with_reducible rfl
    rotate_left
    · simp only [Act.put, List.setIfInBounds_toArray, List.set_cons_zero, List.set_cons_succ, i64_w, i32_w]
      rfl
    refine pure_ (i := 11) (N := some 6) (v := ?_) (a' := ?_) #[true, true, true, true, true, true, true, true, true, true, true, true, false] rfl rfl (any_of HT_.out (by kernel_rfl)) (fun _ _ _ h => h) (Or.inl ⟨by rfl, ?_⟩) ?_ ?_
    rotate_left
    · intro w'
      go_simp
      with_reducible rfl
    rotate_left
    · simp only [Act.put, List.setIfInBounds_toArray, List.set_cons_zero, List.set_cons_succ, i64_w, i32_w]
      rfl
    refine pure_ (i := 12) (N := some 7) (v := ?_) (a' := ?_) #[true, true, true, true, true, true, true, true, true, true, true, true, true] rfl rfl (any_of HT_.out (by kernel_rfl)) (fun _ _ _ h => h) (Or.inl ⟨by rfl, ?_⟩) ?_ ?_
    rotate_left
    · intro w'
      go_simp
      with_reducible rfl
    rotate_left
    · simp only [Act.put, List.setIfInBounds_toArray, List.set_cons_zero, List.set_cons_succ, i64_w, i32_w]
      rfl
    refine done_ (done_of HT_.out (by kernel_rfl)) ?_
    
    clear T0 T1 T2 BD
    have E1 := Aside0.mk (blk_below BK1.out BD3.out)
    have E2 := Aside0.mk (blk_below BK2.out BD3.out)
    have E3 := Aside0.mk (blk_below BK3.out BD3.out)
    have EC := Aside0.mk (blk_below BKC.out BD3.out)
    have hd0 : decide (tx < nx) = true := decide_eq_true hgt; have hcz3 : wB.cell? ⟨g3, 0, none⟩ = some (.int .i64 tx) := (blk_cell E3.out 0).trans rfl; clear hgt
    go_wp2
    refine bodyPost_ret (results_none rfl _ _ _) rfl ?_
    exact ⟨⟨_, rfl⟩, below_step H1.out BD3.out⟩

set_option maxHeartbeats 8000000 in
set_option maxRecDepth 100000 in
theorem iter_one (n : Nat) (l : Nat) (g1 g2 g3 gc : Nat) (A1 : Option Addr) (c1 : Nat) (lb : List S70) (v0 : Value) (fr now nx2 : Int) (ok2 : Bool) (gm : Nat) (w0 w : World) (R : World → Prop) (b1 : w.heap[g1]? = some (.cells #[.pointer (some ⟨gc, 0, none⟩)] 89 (0, 0))) (b2 : w.heap[g2]? = some (.cells #[.int .i64 fr] 3 (0, 0))) (b3 : w.heap[g3]? = some (.cells #[.int .i64 now] 3 (0, 0))) (bc : w.heap[gc]? = some (.cells #[.slice A1 lb.length c1, v0] 95 (0, 0))) (hr : Kd.C k70 w0 A1 lb.length lb) (hl : lb.length ≤ c1) (hlb : lb.length ≤ 1000 ∧ 0 < lb.length) (hnf : ¬ flatB lb) (hce : tariff_Change.f 100 lb fr = some (now, true, 0)) (hce2 : tariff_Change.f 100 lb now = some (nx2, ok2, 0)) (hok : ok2 = false ∨ now < nx2)
    (hb0 : Below w0.heap.size w0 w) (hge : w0.heap.size ≤ gc ∧ w0.heap.size ≤ gm ∧ w0.heap.size ≤ g2) (hne : (g1 ≠ gc ∧ g1 ≠ gm ∧ g1 ≠ g2) ∧ (g2 ≠ gc ∧ g2 ≠ gm) ∧ g3 ≠ gc ∧ g3 ≠ gm ∧ g3 ≠ g2)
    (hY : ∀ W1, Below w.heap.size w W1 → YieldAt Fence.wide (n - 1) Tryd.prog l #[.int .i64 now] W1 fun e W2 => e = .returned (.bool true) ∧ R W2 ∧ (∃ v1, W2.heap[gc]? = some (.cells #[.slice A1 lb.length c1, v1] 95 (0, 0))) ∧ Off2 gc gm W1 W2) :
    CallsIn Fence.wide n Tryd.prog 91 #[.func (.yield l) #[] #[], .pointer (some ⟨g1, 0, none⟩), .pointer (some ⟨g2, 0, none⟩), .pointer (some ⟨g3, 0, none⟩)] w fun e W' => (∃ v, e = .returned v) ∧ ∃ W2, R W2 ∧ W2.grownBy W' (some g2) := by
  have hu95 := Tryd.underlying95
  have hu24 := Tryd.underlying24
  have BK1 := Aside0.mk b1
  have BK2 := Aside0.mk b2
  have BK3 := Aside0.mk b3
  have BKC := Aside0.mk bc
  have HCR0 := Aside0.mk hr; have HCR := Aside0.mk (Kd.C_below hr hb0)
  have HL := Aside0.mk hl
  have LB := Aside0.mk hlb
  clear b1 b2 b3 bc hr hl hlb
  have NF := Aside0.mk hnf
  have CE := Aside0.mk hce
  have CE2 := Aside0.mk hce2
  have OK2 := Aside0.mk hok
  have B0 := Aside0.mk hb0
  have GEE := Aside0.mk hge
  have NEE := Aside0.mk hne
  have HY := Aside0.mk hY
  clear hnf hce hce2 hok hb0 hge hne hY
  have hcz1 : w.cell? ⟨g1, 0, none⟩ = some (.pointer (some ⟨gc, 0, none⟩)) := (blk_cell BK1.out 0).trans rfl
  refine callsIn_of_wp Tryd.func91 rfl trivial ?_ rfl
  refine wpIn_wide.2 ?_
  simp only [Tryd.ntmps91, List.size_toArray, List.length_cons, List.length_nil, Nat.reduceAdd, Nat.reduceSub, Array.replicate_succ, Array.replicate_zero, List.push_toArray, List.append_toArray, List.nil_append, List.cons_append]
  go_wp2_with (go_at_call 92; (with_reducible refine (flat_calls gc A1 c1 lb _ HCR.out LB.out.1 LB.out.2 ((blk_cell BKC.out 0).trans rfl)).mono ?_); rintro e w1 ⟨⟨b_, rfl, hbb⟩, hb⟩; obtain rfl : b_ = false := (by cases b_ with | false => rfl | true => exact absurd (hbb.1 rfl) NF.out); clear hbb hcz1; have M1_ := Aside0.mk (blk_below BK1.out hb); have M2_ := Aside0.mk (blk_below BK2.out hb); have M3_ := Aside0.mk (blk_below BK3.out hb); have MC_ := Aside0.mk (blk_below BKC.out hb); have MR_ := Aside0.mk (Kd.C_below HCR.out hb); clear BK1 BK2 BK3 BKC HCR; have BK1 := M1_; have BK2 := M2_; have BK3 := M3_; have BKC := MC_; have HCR := MR_; clear M1_ M2_ M3_ MC_ MR_; have H1 := Aside0.mk hb; clear hb)
  go_loopg [] 2 (fun kx wr => ∃ i : Nat, i ≤ 1 ∧ 1 - i ≤ kx ∧ Aside0 (i = 0 → wr = w1) ∧ Aside0 (i = 1 → ∃ W2 v1, R W2 ∧ W2.grownBy wr (some g2) ∧ wr.heap[g1]? = some (.cells #[.pointer (some ⟨gc, 0, none⟩)] 89 (0, 0)) ∧ wr.heap[g2]? = some (.cells #[.int .i64 now] 3 (0, 0)) ∧ wr.heap[g3]? = some (.cells #[.int .i64 now] 3 (0, 0)) ∧ wr.heap[gc]? = some (.cells #[.slice A1 lb.length c1, v1] 95 (0, 0)) ∧ Kd.C k70 wr A1 lb.length lb))
  case atStart => exact ⟨0, by omega, by omega, ⟨fun _ => rfl⟩, ⟨fun h => absurd h (by omega)⟩⟩
  case round =>
    obtain ⟨i, hi, hk, P0, P1⟩ := hrel
    by_cases h0 : i = 0
    · subst h0
      obtain rfl := P0.out rfl
      clear P0 P1
      try go_wp2
      have T0 := Aside0.mk ((blk_cell BK1.out 0).trans rfl : wr.cell? ⟨g1, 0, none⟩ = some (.pointer (some ⟨gc, 0, none⟩)))
      have T1 := Aside0.mk ((blk_cell BKC.out 0).trans rfl : wr.cell? ⟨gc, 0, none⟩ = some (.slice A1 lb.length c1))
      have T2 := Aside0.mk ((blk_cell BK2.out 0).trans rfl : wr.cell? ⟨g2, 0, none⟩ = some (.int .i64 fr))
      have BD := Aside0.mk (below_drew (Below.refl wr.heap.size wr))
      refine start_ (n := 13) (S := fun w' => w'.cell? ⟨g1, 0, none⟩ = some (.pointer (some ⟨gc, 0, none⟩)) ∧ w'.cell? ⟨gc, 0, none⟩ = some (.slice A1 lb.length c1) ∧ w'.cell? ⟨g2, 0, none⟩ = some (.int .i64 fr)) (ds := []) #[false, false, false, false, false, false, false, false, false, false, false, false, false] (by kernel_rfl) rfl rfl ⟨T0.out, T1.out, T2.out⟩ (fun hHeld => ?_)
      generalize wr.drew = w8 at BD hHeld ⊢
      refine with_tabW meter_iter.tab1 meter_iter.bits1 (fun HT_ HW_ => ?_)
      refine take_ (i := 0) (N := some 11) (v := ?_) (a' := ?_) #[true, false, false, false, false, false, false, false, false, false, false, false, false] rfl rfl (take_ofW HT_.out HW_.out (by kernel_rfl)) (fun _ _ _ h => h) (Or.inl ⟨by rfl, ?_⟩) hHeld ?_ ?_
      rotate_left
      · rintro w' ⟨s0, s1, s2⟩
        go_simp
        with_reducible rfl
      rotate_left
      · simp only [Act.put, List.setIfInBounds_toArray, List.set_cons_zero, List.set_cons_succ, i64_w, i32_w]
        rfl
      refine pure_ (i := 1) (N := some 12) (v := ?_) (a' := ?_) #[true, true, false, false, false, false, false, false, false, false, false, false, false] rfl rfl (any_of HT_.out (by kernel_rfl)) (fun _ _ _ h => h) (Or.inl ⟨by rfl, ?_⟩) ?_ ?_
      rotate_left
      · intro w'
        go_simp
        with_reducible rfl
      rotate_left
      · simp only [Act.put, List.setIfInBounds_toArray, List.set_cons_zero, List.set_cons_succ, i64_w, i32_w]
        rfl
      refine pure_ (i := 2) (N := some 13) (v := ?_) (a' := ?_) #[true, true, true, false, false, false, false, false, false, false, false, false, false] rfl rfl (any_of HT_.out (by kernel_rfl)) (fun _ _ _ h => h) (Or.inl ⟨by rfl, ?_⟩) ?_ ?_
      rotate_left
      · intro w'
        go_simp
        with_reducible rfl
      rotate_left
      · simp only [Act.put, List.setIfInBounds_toArray, List.set_cons_zero, List.set_cons_succ, i64_w, i32_w]
        rfl
      refine take_ (i := 3) (N := some 14) (v := ?_) (a' := ?_) #[true, true, true, true, false, false, false, false, false, false, false, false, false] rfl rfl (take_ofW HT_.out HW_.out (by kernel_rfl)) (fun _ _ _ h => h) (Or.inl ⟨by rfl, ?_⟩) hHeld ?_ ?_
      rotate_left
      · rintro w' ⟨s0, s1, s2⟩
        go_simp
        with_reducible rfl
      rotate_left
      · simp only [Act.put, List.setIfInBounds_toArray, List.set_cons_zero, List.set_cons_succ, i64_w, i32_w]
        rfl
      refine take_ (i := 4) (N := some 15) (v := ?_) (a' := ?_) #[true, true, true, true, true, false, false, false, false, false, false, false, false] rfl rfl (take_ofW HT_.out HW_.out (by kernel_rfl)) (fun _ _ _ h => h) (Or.inl ⟨by rfl, ?_⟩) hHeld ?_ ?_
      rotate_left
      · rintro w' ⟨s0, s1, s2⟩
        go_simp
        with_reducible rfl
      rotate_left
      · simp only [Act.put, List.setIfInBounds_toArray, List.set_cons_zero, List.set_cons_succ, i64_w, i32_w]
        rfl
      refine one_ (i := 5) (N := some 16) #[true, true, true, true, true, true, false, false, false, false, false, false, false] rfl rfl (one_of HT_.out (by kernel_rfl)) (by decide) (fun K hK => ?_)
      refine goes_ Tryd.func93 (by kernel_rfl) rfl #[.agg #[.slice A1 lb.length c1], .int .i64 fr] (by rfl) rfl rfl (by simp only [List.map_toArray, List.map_cons, List.map_nil]; rfl) ?_
      with_reducible refine (tariff_Change.calls 100 A1 c1 lb fr now true 0 _ (Kd.C_below HCR.out BD.out) HL.out CE.out).mono ?_
      rintro e wB ⟨rfl, hb9⟩
      refine ⟨_, rfl, ?_⟩
      have BD3 := Aside0.mk (below_step BD.out hb9)
      clear hb9
      refine hK.out _ _ ⟨(BD3.out.cell (World.block_lt_of_cell? wr _ T0.out)).trans T0.out, (BD3.out.cell (World.block_lt_of_cell? wr _ T1.out)).trans T1.out, (BD3.out.cell (World.block_lt_of_cell? wr _ T2.out)).trans T2.out⟩ (fun hHeld => ?_)
      clear hK K
      refine norm_ (a' := ?_) ?_ ?_
      rotate_left
      · show Act.put _ (some 16) _ = _
        simp only [Act.put, List.setIfInBounds_toArray, List.set_cons_zero, List.set_cons_succ, i64_w, i32_w]
        rfl
      refine pure_ (i := 6) (N := some 10) (v := ?_) (a' := ?_) #[true, true, true, true, true, true, true, false, false, false, false, false, false] rfl rfl (any_of HT_.out (by kernel_rfl)) (fun _ _ _ h => h) (Or.inl ⟨by rfl, ?_⟩) ?_ ?_
      rotate_left
      · intro w'
        go_simp
        with_reducible rfl
      rotate_left
      · simp only [Act.put, List.setIfInBounds_toArray, List.set_cons_zero, List.set_cons_succ, i64_w, i32_w]
        rfl
      refine pure_ (i := 7) (N := some 17) (v := ?_) (a' := ?_) #[true, true, true, true, true, true, true, true, false, false, false, false, false] rfl rfl (any_of HT_.out (by kernel_rfl)) (fun _ _ _ h => h) (Or.inl ⟨by rfl, ?_⟩) ?_ ?_
      rotate_left
      · intro w'
        go_simp
        with_reducible rfl
      rotate_left
      · simp only [Act.put, List.setIfInBounds_toArray, List.set_cons_zero, List.set_cons_succ, i64_w, i32_w]
        rfl
      refine pure_ (i := 8) (N := some 18) (v := ?_) (a' := ?_) #[true, true, true, true, true, true, true, true, true, false, false, false, false] rfl rfl (any_of HT_.out (by kernel_rfl)) (fun _ _ _ h => h) (Or.inl ⟨by rfl, ?_⟩) ?_ ?_
      rotate_left
      · intro w'
        go_simp
        with_reducible rfl
      rotate_left
      · simp only [Act.put, List.setIfInBounds_toArray, List.set_cons_zero, List.set_cons_succ, i64_w, i32_w]
        rfl
      refine pure_ (i := 9) (N := some 19) (v := ?_) (a' := ?_) #[true, true, true, true, true, true, true, true, true, true, false, false, false] rfl rfl (any_of HT_.out (by kernel_rfl)) (fun _ _ _ h => h) (Or.inl ⟨by rfl, ?_⟩) ?_ ?_
      rotate_left
      · intro w'
        go_simp
        with_reducible rfl
      rotate_left
      · simp only [Act.put, List.setIfInBounds_toArray, List.set_cons_zero, List.set_cons_succ, i64_w, i32_w]
        rfl
      refine pure_ (i := 10) (N := some 5) (v := ?_) (a' := ?_) #[true, true, true, true, true, true, true, true, true, true, true, false, false] rfl rfl (any_of HT_.out (by kernel_rfl)) (fun _ _ _ h => h) (Or.inl ⟨by rfl, ?_⟩) ?_ ?_
      rotate_left
      · intro w'
        go_simp
        with_reducible rfl
      rotate_left
      · simp only [Act.put, List.setIfInBounds_toArray, List.set_cons_zero, List.set_cons_succ, i64_w, i32_w]
        rfl
      refine pure_ (i := 11) (N := some 6) (v := ?_) (a' := ?_) #[true, true, true, true, true, true, true, true, true, true, true, true, false] rfl rfl (any_of HT_.out (by kernel_rfl)) (fun _ _ _ h => h) (Or.inl ⟨by rfl, ?_⟩) ?_ ?_
      rotate_left
      · intro w'
        go_simp
        with_reducible rfl
      rotate_left
      · simp only [Act.put, List.setIfInBounds_toArray, List.set_cons_zero, List.set_cons_succ, i64_w, i32_w]
        rfl
      refine pure_ (i := 12) (N := some 7) (v := ?_) (a' := ?_) #[true, true, true, true, true, true, true, true, true, true, true, true, true] rfl rfl (any_of HT_.out (by kernel_rfl)) (fun _ _ _ h => h) (Or.inl ⟨by rfl, ?_⟩) ?_ ?_
      rotate_left
      · intro w'
        go_simp
        with_reducible rfl
      rotate_left
      · simp only [Act.put, List.setIfInBounds_toArray, List.set_cons_zero, List.set_cons_succ, i64_w, i32_w]
        rfl
      refine done_ (done_of HT_.out (by kernel_rfl)) ?_
      
      clear T0 T1 T2 BD
      have E1 := Aside0.mk (blk_below BK1.out BD3.out)
      have E2 := Aside0.mk (blk_below BK2.out BD3.out)
      have E3 := Aside0.mk (blk_below BK3.out BD3.out)
      have EC := Aside0.mk (blk_below BKC.out BD3.out)
      go_upto_region 2 with fail
      refine (wpIn_wide (n := n)).1 ?_
      obtain ⟨fn_, tmps_, assign_, body_, hy, hRd⟩ := HY.out wB (below_step H1.out BD3.out)
      have RD := Aside0.mk hRd
      clear hRd
      have hd0 : decide (now < now) = false := decide_eq_false (by omega)
      have hcz3 : wB.cell? ⟨g3, 0, none⟩ = some (.int .i64 now) := (blk_cell E3.out 0).trans rfl
      gi_wp2
      refine ⟨fun h_ => by simp [Fence.wide] at h_, ?_⟩
      refine RD.out.mono ?_
      rintro e W2 ⟨rfl, hR2, ⟨v1, hc2⟩, ho2⟩
      dsimp only
      have R2 := Aside0.mk hR2
      have C2 := Aside0.mk hc2
      have O2 := Aside0.mk ho2
      have E22 := Aside0.mk (ho2.blk E2.out NEE.out.2.1.1 NEE.out.2.1.2)
      have E21 := Aside0.mk (ho2.blk E1.out NEE.out.1.1 NEE.out.1.2.1)
      have E23 := Aside0.mk (ho2.blk E3.out NEE.out.2.2.1 NEE.out.2.2.2.1)
      clear hR2 hc2 ho2 hy hcz3
      have hcz2 : W2.cell? ⟨g2, 0, none⟩ = some (.int .i64 fr) := (blk_cell E22.out 0).trans rfl
      have hfz2 := blk_frozen E22.out 0
      gi_wp2
      go_wp2
      go_roundg 0
      case measure => omega
      case rel => exact ⟨1, by omega, by omega, ⟨fun h => by omega⟩, ⟨fun _ => ⟨W2, v1, R2.out, setCell_grown W2 ⟨g2, 0, none⟩ _, blk_far (p := ⟨g2, 0, none⟩) E21.out NEE.out.1.2.2 _, blk_put E22.out 0 _ rfl, blk_far (p := ⟨g2, 0, none⟩) E23.out NEE.out.2.2.2.2 _, blk_far (p := ⟨g2, 0, none⟩) C2.out (Ne.symm NEE.out.2.1.1) _, Kd.C_below HCR0.out (below_set (O2.out.below (below_step (below_step B0.out H1.out) BD3.out) GEE.out.1 GEE.out.2.1) GEE.out.2.2)⟩⟩⟩
    · obtain rfl : i = 1 := by omega
      obtain ⟨W2, v1, hR2, hgr, q1, q2, q3, qc, qr⟩ := P1.out rfl
      clear P0 P1 BK1 BK2 BK3 BKC HCR
      have BK1 := Aside0.mk q1
      have BK2 := Aside0.mk q2
      have BK3 := Aside0.mk q3
      have BKC := Aside0.mk qc
      have HCR := Aside0.mk qr
      have R2 := Aside0.mk hR2
      have GR := Aside0.mk hgr
      clear q1 q2 q3 qc qr hR2 hgr
      cases ok2 with
      | false =>
        try go_wp2
        have T0 := Aside0.mk ((blk_cell BK1.out 0).trans rfl : wr.cell? ⟨g1, 0, none⟩ = some (.pointer (some ⟨gc, 0, none⟩)))
        have T1 := Aside0.mk ((blk_cell BKC.out 0).trans rfl : wr.cell? ⟨gc, 0, none⟩ = some (.slice A1 lb.length c1))
        have T2 := Aside0.mk ((blk_cell BK2.out 0).trans rfl : wr.cell? ⟨g2, 0, none⟩ = some (.int .i64 now))
        have BD := Aside0.mk (below_drew (Below.refl wr.heap.size wr))
        refine start_ (n := 13) (S := fun w' => w'.cell? ⟨g1, 0, none⟩ = some (.pointer (some ⟨gc, 0, none⟩)) ∧ w'.cell? ⟨gc, 0, none⟩ = some (.slice A1 lb.length c1) ∧ w'.cell? ⟨g2, 0, none⟩ = some (.int .i64 now)) (ds := []) #[false, false, false, false, false, false, false, false, false, false, false, false, false] (by kernel_rfl) rfl rfl ⟨T0.out, T1.out, T2.out⟩ (fun hHeld => ?_)
        generalize wr.drew = w8 at BD hHeld ⊢
        refine with_tabW meter_iter.tab1 meter_iter.bits1 (fun HT_ HW_ => ?_)
        refine take_ (i := 0) (N := some 11) (v := ?_) (a' := ?_) #[true, false, false, false, false, false, false, false, false, false, false, false, false] rfl rfl (take_ofW HT_.out HW_.out (by kernel_rfl)) (fun _ _ _ h => h) (Or.inl ⟨by rfl, ?_⟩) hHeld ?_ ?_
        rotate_left
        · rintro w' ⟨s0, s1, s2⟩
          go_simp
          with_reducible rfl
        rotate_left
        · simp only [Act.put, List.setIfInBounds_toArray, List.set_cons_zero, List.set_cons_succ, i64_w, i32_w]
          rfl
        refine pure_ (i := 1) (N := some 12) (v := ?_) (a' := ?_) #[true, true, false, false, false, false, false, false, false, false, false, false, false] rfl rfl (any_of HT_.out (by kernel_rfl)) (fun _ _ _ h => h) (Or.inl ⟨by rfl, ?_⟩) ?_ ?_
        rotate_left
        · intro w'
          go_simp
          with_reducible rfl
        rotate_left
        · simp only [Act.put, List.setIfInBounds_toArray, List.set_cons_zero, List.set_cons_succ, i64_w, i32_w]
          rfl
        refine pure_ (i := 2) (N := some 13) (v := ?_) (a' := ?_) #[true, true, true, false, false, false, false, false, false, false, false, false, false] rfl rfl (any_of HT_.out (by kernel_rfl)) (fun _ _ _ h => h) (Or.inl ⟨by rfl, ?_⟩) ?_ ?_
        rotate_left
        · intro w'
          go_simp
          with_reducible rfl
        rotate_left
        · simp only [Act.put, List.setIfInBounds_toArray, List.set_cons_zero, List.set_cons_succ, i64_w, i32_w]
          rfl
        refine take_ (i := 3) (N := some 14) (v := ?_) (a' := ?_) #[true, true, true, true, false, false, false, false, false, false, false, false, false] rfl rfl (take_ofW HT_.out HW_.out (by kernel_rfl)) (fun _ _ _ h => h) (Or.inl ⟨by rfl, ?_⟩) hHeld ?_ ?_
        rotate_left
        · rintro w' ⟨s0, s1, s2⟩
          go_simp
          with_reducible rfl
        rotate_left
        · simp only [Act.put, List.setIfInBounds_toArray, List.set_cons_zero, List.set_cons_succ, i64_w, i32_w]
          rfl
        refine take_ (i := 4) (N := some 15) (v := ?_) (a' := ?_) #[true, true, true, true, true, false, false, false, false, false, false, false, false] rfl rfl (take_ofW HT_.out HW_.out (by kernel_rfl)) (fun _ _ _ h => h) (Or.inl ⟨by rfl, ?_⟩) hHeld ?_ ?_
        rotate_left
        · rintro w' ⟨s0, s1, s2⟩
          go_simp
          with_reducible rfl
        rotate_left
        · simp only [Act.put, List.setIfInBounds_toArray, List.set_cons_zero, List.set_cons_succ, i64_w, i32_w]
          rfl
        refine one_ (i := 5) (N := some 16) #[true, true, true, true, true, true, false, false, false, false, false, false, false] rfl rfl (one_of HT_.out (by kernel_rfl)) (by decide) (fun K hK => ?_)
        refine goes_ Tryd.func93 (by kernel_rfl) rfl #[.agg #[.slice A1 lb.length c1], .int .i64 now] (by rfl) rfl rfl (by simp only [List.map_toArray, List.map_cons, List.map_nil]; rfl) ?_
        with_reducible refine (tariff_Change.calls 100 A1 c1 lb now nx2 false 0 _ (Kd.C_below HCR.out BD.out) HL.out CE2.out).mono ?_
        rintro e wB ⟨rfl, hb9⟩
        refine ⟨_, rfl, ?_⟩
        have BD3 := Aside0.mk (below_step BD.out hb9)
        clear hb9
        refine hK.out _ _ ⟨(BD3.out.cell (World.block_lt_of_cell? wr _ T0.out)).trans T0.out, (BD3.out.cell (World.block_lt_of_cell? wr _ T1.out)).trans T1.out, (BD3.out.cell (World.block_lt_of_cell? wr _ T2.out)).trans T2.out⟩ (fun hHeld => ?_)
        clear hK K
        refine norm_ (a' := ?_) ?_ ?_
        rotate_left
        · show Act.put _ (some 16) _ = _
          simp only [Act.put, List.setIfInBounds_toArray, List.set_cons_zero, List.set_cons_succ, i64_w, i32_w]
          rfl
        refine pure_ (i := 6) (N := some 10) (v := ?_) (a' := ?_) #[true, true, true, true, true, true, true, false, false, false, false, false, false] rfl rfl (any_of HT_.out (by kernel_rfl)) (fun _ _ _ h => h) (Or.inl ⟨by rfl, ?_⟩) ?_ ?_
        rotate_left
        · intro w'
          go_simp
          with_reducible rfl
        rotate_left
        · simp only [Act.put, List.setIfInBounds_toArray, List.set_cons_zero, List.set_cons_succ, i64_w, i32_w]
          rfl
        refine pure_ (i := 7) (N := some 17) (v := ?_) (a' := ?_) #[true, true, true, true, true, true, true, true, false, false, false, false, false] rfl rfl (any_of HT_.out (by kernel_rfl)) (fun _ _ _ h => h) (Or.inl ⟨by rfl, ?_⟩) ?_ ?_
        rotate_left
        · intro w'
          go_simp
          with_reducible rfl
        rotate_left
        · simp only [Act.put, List.setIfInBounds_toArray, List.set_cons_zero, List.set_cons_succ, i64_w, i32_w]
          rfl
        refine pure_ (i := 8) (N := some 18) (v := ?_) (a' := ?_) #[true, true, true, true, true, true, true, true, true, false, false, false, false] rfl rfl (any_of HT_.out (by kernel_rfl)) (fun _ _ _ h => h) (Or.inl ⟨by rfl, ?_⟩) ?_ ?_
        rotate_left
        · intro w'
          go_simp
          with_reducible rfl
        rotate_left
        · simp only [Act.put, List.setIfInBounds_toArray, List.set_cons_zero, List.set_cons_succ, i64_w, i32_w]
          rfl
        refine pure_ (i := 9) (N := some 19) (v := ?_) (a' := ?_) #[true, true, true, true, true, true, true, true, true, true, false, false, false] rfl rfl (any_of HT_.out (by kernel_rfl)) (fun _ _ _ h => h) (Or.inl ⟨by rfl, ?_⟩) ?_ ?_
        rotate_left
        · intro w'
          go_simp
          with_reducible rfl
        rotate_left
        · simp only [Act.put, List.setIfInBounds_toArray, List.set_cons_zero, List.set_cons_succ, i64_w, i32_w]
          rfl
        refine pure_ (i := 10) (N := some 5) (v := ?_) (a' := ?_) #[true, true, true, true, true, true, true, true, true, true, true, false, false] rfl rfl (any_of HT_.out (by kernel_rfl)) (fun _ _ _ h => h) (Or.inl ⟨by rfl, ?_⟩) ?_ ?_
        rotate_left
        · intro w'
          go_simp
          with_reducible rfl
        rotate_left
        · simp only [Act.put, List.setIfInBounds_toArray, List.set_cons_zero, List.set_cons_succ, i64_w, i32_w]
          rfl
        refine pure_ (i := 11) (N := some 6) (v := ?_) (a' := ?_) #[true, true, true, true, true, true, true, true, true, true, true, true, false] rfl rfl (any_of HT_.out (by kernel_rfl)) (fun _ _ _ h => h) (Or.inl ⟨by rfl, ?_⟩) ?_ ?_
        rotate_left
        · intro w'
          go_simp
          with_reducible rfl
        rotate_left
        · simp only [Act.put, List.setIfInBounds_toArray, List.set_cons_zero, List.set_cons_succ, i64_w, i32_w]
          rfl
        refine pure_ (i := 12) (N := some 7) (v := ?_) (a' := ?_) #[true, true, true, true, true, true, true, true, true, true, true, true, true] rfl rfl (any_of HT_.out (by kernel_rfl)) (fun _ _ _ h => h) (Or.inl ⟨by rfl, ?_⟩) ?_ ?_
        rotate_left
        · intro w'
          go_simp
          with_reducible rfl
        rotate_left
        · simp only [Act.put, List.setIfInBounds_toArray, List.set_cons_zero, List.set_cons_succ, i64_w, i32_w]
          rfl
        refine done_ (done_of HT_.out (by kernel_rfl)) ?_
        
        clear T0 T1 T2 BD
        have E1 := Aside0.mk (blk_below BK1.out BD3.out)
        have E2 := Aside0.mk (blk_below BK2.out BD3.out)
        have E3 := Aside0.mk (blk_below BK3.out BD3.out)
        have EC := Aside0.mk (blk_below BKC.out BD3.out)
        go_wp2
        refine bodyPost_ret (results_none rfl _ _ _) rfl ?_
        exact ⟨⟨_, rfl⟩, W2, R2.out, grow_below GR.out BD3.out⟩
      | true =>
        have hlt : now < nx2 := by
          rcases OK2.out with h_ | h_
          · cases h_
          · exact h_
        have hd0 : decide (now < nx2) = true := decide_eq_true hlt
        clear hlt
        try go_wp2
        have T0 := Aside0.mk ((blk_cell BK1.out 0).trans rfl : wr.cell? ⟨g1, 0, none⟩ = some (.pointer (some ⟨gc, 0, none⟩)))
        have T1 := Aside0.mk ((blk_cell BKC.out 0).trans rfl : wr.cell? ⟨gc, 0, none⟩ = some (.slice A1 lb.length c1))
        have T2 := Aside0.mk ((blk_cell BK2.out 0).trans rfl : wr.cell? ⟨g2, 0, none⟩ = some (.int .i64 now))
        have BD := Aside0.mk (below_drew (Below.refl wr.heap.size wr))
        refine start_ (n := 13) (S := fun w' => w'.cell? ⟨g1, 0, none⟩ = some (.pointer (some ⟨gc, 0, none⟩)) ∧ w'.cell? ⟨gc, 0, none⟩ = some (.slice A1 lb.length c1) ∧ w'.cell? ⟨g2, 0, none⟩ = some (.int .i64 now)) (ds := []) #[false, false, false, false, false, false, false, false, false, false, false, false, false] (by kernel_rfl) rfl rfl ⟨T0.out, T1.out, T2.out⟩ (fun hHeld => ?_)
        generalize wr.drew = w8 at BD hHeld ⊢
        refine with_tabW meter_iter.tab1 meter_iter.bits1 (fun HT_ HW_ => ?_)
        refine take_ (i := 0) (N := some 11) (v := ?_) (a' := ?_) #[true, false, false, false, false, false, false, false, false, false, false, false, false] rfl rfl (take_ofW HT_.out HW_.out (by kernel_rfl)) (fun _ _ _ h => h) (Or.inl ⟨by rfl, ?_⟩) hHeld ?_ ?_
        rotate_left
        · rintro w' ⟨s0, s1, s2⟩
          go_simp
          with_reducible rfl
        rotate_left
        · simp only [Act.put, List.setIfInBounds_toArray, List.set_cons_zero, List.set_cons_succ, i64_w, i32_w]
          rfl
        refine pure_ (i := 1) (N := some 12) (v := ?_) (a' := ?_) #[true, true, false, false, false, false, false, false, false, false, false, false, false] rfl rfl (any_of HT_.out (by kernel_rfl)) (fun _ _ _ h => h) (Or.inl ⟨by rfl, ?_⟩) ?_ ?_
        rotate_left
        · intro w'
          go_simp
          with_reducible rfl
        rotate_left
        · simp only [Act.put, List.setIfInBounds_toArray, List.set_cons_zero, List.set_cons_succ, i64_w, i32_w]
          rfl
        refine pure_ (i := 2) (N := some 13) (v := ?_) (a' := ?_) #[true, true, true, false, false, false, false, false, false, false, false, false, false] rfl rfl (any_of HT_.out (by kernel_rfl)) (fun _ _ _ h => h) (Or.inl ⟨by rfl, ?_⟩) ?_ ?_
        rotate_left
        · intro w'
          go_simp
          with_reducible rfl
        rotate_left
        · simp only [Act.put, List.setIfInBounds_toArray, List.set_cons_zero, List.set_cons_succ, i64_w, i32_w]
          rfl
        refine take_ (i := 3) (N := some 14) (v := ?_) (a' := ?_) #[true, true, true, true, false, false, false, false, false, false, false, false, false] rfl rfl (take_ofW HT_.out HW_.out (by kernel_rfl)) (fun _ _ _ h => h) (Or.inl ⟨by rfl, ?_⟩) hHeld ?_ ?_
        rotate_left
        · rintro w' ⟨s0, s1, s2⟩
          go_simp
          with_reducible rfl
        rotate_left
        · simp only [Act.put, List.setIfInBounds_toArray, List.set_cons_zero, List.set_cons_succ, i64_w, i32_w]
          rfl
        refine take_ (i := 4) (N := some 15) (v := ?_) (a' := ?_) #[true, true, true, true, true, false, false, false, false, false, false, false, false] rfl rfl (take_ofW HT_.out HW_.out (by kernel_rfl)) (fun _ _ _ h => h) (Or.inl ⟨by rfl, ?_⟩) hHeld ?_ ?_
        rotate_left
        · rintro w' ⟨s0, s1, s2⟩
          go_simp
          with_reducible rfl
        rotate_left
        · simp only [Act.put, List.setIfInBounds_toArray, List.set_cons_zero, List.set_cons_succ, i64_w, i32_w]
          rfl
        refine one_ (i := 5) (N := some 16) #[true, true, true, true, true, true, false, false, false, false, false, false, false] rfl rfl (one_of HT_.out (by kernel_rfl)) (by decide) (fun K hK => ?_)
        refine goes_ Tryd.func93 (by kernel_rfl) rfl #[.agg #[.slice A1 lb.length c1], .int .i64 now] (by rfl) rfl rfl (by simp only [List.map_toArray, List.map_cons, List.map_nil]; rfl) ?_
        with_reducible refine (tariff_Change.calls 100 A1 c1 lb now nx2 true 0 _ (Kd.C_below HCR.out BD.out) HL.out CE2.out).mono ?_
        rintro e wB ⟨rfl, hb9⟩
        refine ⟨_, rfl, ?_⟩
        have BD3 := Aside0.mk (below_step BD.out hb9)
        clear hb9
        refine hK.out _ _ ⟨(BD3.out.cell (World.block_lt_of_cell? wr _ T0.out)).trans T0.out, (BD3.out.cell (World.block_lt_of_cell? wr _ T1.out)).trans T1.out, (BD3.out.cell (World.block_lt_of_cell? wr _ T2.out)).trans T2.out⟩ (fun hHeld => ?_)
        clear hK K
        refine norm_ (a' := ?_) ?_ ?_
        rotate_left
        · show Act.put _ (some 16) _ = _
          simp only [Act.put, List.setIfInBounds_toArray, List.set_cons_zero, List.set_cons_succ, i64_w, i32_w]
          rfl
        refine pure_ (i := 6) (N := some 10) (v := ?_) (a' := ?_) #[true, true, true, true, true, true, true, false, false, false, false, false, false] rfl rfl (any_of HT_.out (by kernel_rfl)) (fun _ _ _ h => h) (Or.inl ⟨by rfl, ?_⟩) ?_ ?_
        rotate_left
        · intro w'
          go_simp
          with_reducible rfl
        rotate_left
        · simp only [Act.put, List.setIfInBounds_toArray, List.set_cons_zero, List.set_cons_succ, i64_w, i32_w]
          rfl
        refine pure_ (i := 7) (N := some 17) (v := ?_) (a' := ?_) #[true, true, true, true, true, true, true, true, false, false, false, false, false] rfl rfl (any_of HT_.out (by kernel_rfl)) (fun _ _ _ h => h) (Or.inl ⟨by rfl, ?_⟩) ?_ ?_
        rotate_left
        · intro w'
          go_simp
          with_reducible rfl
        rotate_left
        · simp only [Act.put, List.setIfInBounds_toArray, List.set_cons_zero, List.set_cons_succ, i64_w, i32_w]
          rfl
        refine pure_ (i := 8) (N := some 18) (v := ?_) (a' := ?_) #[true, true, true, true, true, true, true, true, true, false, false, false, false] rfl rfl (any_of HT_.out (by kernel_rfl)) (fun _ _ _ h => h) (Or.inl ⟨by rfl, ?_⟩) ?_ ?_
        rotate_left
        · intro w'
          go_simp
          with_reducible rfl
        rotate_left
        · simp only [Act.put, List.setIfInBounds_toArray, List.set_cons_zero, List.set_cons_succ, i64_w, i32_w]
          rfl
        refine pure_ (i := 9) (N := some 19) (v := ?_) (a' := ?_) #[true, true, true, true, true, true, true, true, true, true, false, false, false] rfl rfl (any_of HT_.out (by kernel_rfl)) (fun _ _ _ h => h) (Or.inl ⟨by rfl, ?_⟩) ?_ ?_
        rotate_left
        · intro w'
          go_simp
          with_reducible rfl
        rotate_left
        · simp only [Act.put, List.setIfInBounds_toArray, List.set_cons_zero, List.set_cons_succ, i64_w, i32_w]
          rfl
        refine pure_ (i := 10) (N := some 5) (v := ?_) (a' := ?_) #[true, true, true, true, true, true, true, true, true, true, true, false, false] rfl rfl (any_of HT_.out (by kernel_rfl)) (fun _ _ _ h => h) (Or.inl ⟨by rfl, ?_⟩) ?_ ?_
        rotate_left
        · intro w'
          go_simp
          with_reducible rfl
        rotate_left
        · simp only [Act.put, List.setIfInBounds_toArray, List.set_cons_zero, List.set_cons_succ, i64_w, i32_w]
          rfl
        refine pure_ (i := 11) (N := some 6) (v := ?_) (a' := ?_) #[true, true, true, true, true, true, true, true, true, true, true, true, false] rfl rfl (any_of HT_.out (by kernel_rfl)) (fun _ _ _ h => h) (Or.inl ⟨by rfl, ?_⟩) ?_ ?_
        rotate_left
        · intro w'
          go_simp
          with_reducible rfl
        rotate_left
        · simp only [Act.put, List.setIfInBounds_toArray, List.set_cons_zero, List.set_cons_succ, i64_w, i32_w]
          rfl
        refine pure_ (i := 12) (N := some 7) (v := ?_) (a' := ?_) #[true, true, true, true, true, true, true, true, true, true, true, true, true] rfl rfl (any_of HT_.out (by kernel_rfl)) (fun _ _ _ h => h) (Or.inl ⟨by rfl, ?_⟩) ?_ ?_
        rotate_left
        · intro w'
          go_simp
          with_reducible rfl
        rotate_left
        · simp only [Act.put, List.setIfInBounds_toArray, List.set_cons_zero, List.set_cons_succ, i64_w, i32_w]
          rfl
        refine done_ (done_of HT_.out (by kernel_rfl)) ?_
        
        clear T0 T1 T2 BD
        have E1 := Aside0.mk (blk_below BK1.out BD3.out)
        have E2 := Aside0.mk (blk_below BK2.out BD3.out)
        have E3 := Aside0.mk (blk_below BK3.out BD3.out)
        have EC := Aside0.mk (blk_below BKC.out BD3.out)
        have hcz3 : wB.cell? ⟨g3, 0, none⟩ = some (.int .i64 now) := (blk_cell E3.out 0).trans rfl
        go_wp2
        refine bodyPost_ret (results_none rfl _ _ _) rfl ?_
        exact ⟨⟨_, rfl⟩, W2, R2.out, grow_below GR.out BD3.out⟩

end Go.Proofs.YtldpacphackdjaaDoor.Print
