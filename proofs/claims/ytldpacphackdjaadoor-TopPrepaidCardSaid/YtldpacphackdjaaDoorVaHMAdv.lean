/- That (*cutter).advance leaves all as it is where the rate does not change up to a time, and cuts one record where the one change is at that time. -/
import Derived.Test.YtldpacphackdjaaDoorVaHMIter
import Derived.Shelf.Abstract
namespace Go.Proofs.YtldpacphackdjaaDoor.Print
open Go.RowKit Go.Shelf Go.Proofs.YtldpacphackdjaaDoorW.PrintWords Go.Proofs.YtldpacphackdjaaDoorW.PrintLast Go.Proofs.YtldpacphackdjaaDoorW.PrintMore
set_option linter.unusedVariables false
set_option linter.unusedSimpArgs false
attribute [local go_sem] Oper.semAt_some
/-- No panic, no want of room. -/
def noPanic (Q : Exit → Act → World → Prop) : Exit → Act → World → Prop
  | .normal, a, w => Q .normal a w
  | .ret, a, w => Q .ret a w
  | .exit i, a, w => Q (.exit i) a w
  | .goto t, a, w => Q (.goto t) a w
  | .panic _, _, _ => False
  | .outgrown, _, _ => False
theorem noPanic_le {Q : Exit → Act → World → Prop} : ∀ (e : Exit) (a : Act) (w : World), noPanic Q e a w → Q e a w
  | .normal, _, _, h => h
  | .ret, _, _, h => h
  | .exit _, _, _, h => h
  | .goto _, _, _, h => h
  | .panic _, _, _, h => h.elim
  | .outgrown, _, _, h => h.elim
/-- Nothing changes behind a time up to another one. -/
def noChg (lb : List S70) (fr tx : Int) : Prop := flatB lb ∨ ∃ nx, tariff_Change.f 100 lb fr = some (nx, false, 0) ∨ (tariff_Change.f 100 lb fr = some (nx, true, 0) ∧ tx < nx)
theorem iter_none (l : Nat) (g1 g2 g3 gc : Nat) (A1 : Option Addr) (c1 : Nat) (lb : List S70) (v0 : Value) (fr tx : Int) (w : World) (b1 : w.heap[g1]? = some (.cells #[.pointer (some ⟨gc, 0, none⟩)] 89 (0, 0))) (b2 : w.heap[g2]? = some (.cells #[.int .i64 fr] 3 (0, 0))) (b3 : w.heap[g3]? = some (.cells #[.int .i64 tx] 3 (0, 0))) (bc : w.heap[gc]? = some (.cells #[.slice A1 lb.length c1, v0] 95 (0, 0))) (hr : Kd.C k70 w A1 lb.length lb) (hl : lb.length ≤ c1) (hlb : lb.length ≤ 1000 ∧ 0 < lb.length) (hno : noChg lb fr tx) :
    Calls Tryd.prog 91 #[.func (.yield l) #[] #[], .pointer (some ⟨g1, 0, none⟩), .pointer (some ⟨g2, 0, none⟩), .pointer (some ⟨g3, 0, none⟩)] w fun e w' => (∃ v, e = .returned v) ∧ Below w.heap.size w w' := by
  by_cases hf : flatB lb
  · exact iter_flat l g1 g2 g3 gc A1 c1 lb v0 fr tx w b1 b2 b3 bc hr hl hlb hf
  · rcases hno with h | ⟨nx, h | ⟨h, h2⟩⟩
    · exact absurd h hf
    · exact iter_never l g1 g2 g3 gc A1 c1 lb v0 fr tx nx w b1 b2 b3 bc hr hl hlb hf h
    · exact iter_later l g1 g2 g3 gc A1 c1 lb v0 fr tx nx w b1 b2 b3 bc hr hl hlb hf h h2
def meter_adv.T1 : Bool × List (List Nat × List Nat) := (true, [([], []), ([], []), ([1], [1]), ([2], [2]), ([3], [3]), ([], []), ([0, 4, 5], [0, 4, 5])])
def meter_adv.B1 : List Nat := [0, 0, 2, 6, 14, 0, 63]
theorem meter_adv.tab1 : rtab .any (opsOf Tryd.f47 1) = meter_adv.T1 := by kernel_rfl
theorem meter_adv.bits1 : waitsOk meter_adv.T1.2 meter_adv.B1 = true := by kernel_rfl

set_option maxHeartbeats 4000000 in
set_option maxRecDepth 100000 in
theorem advance_none (gc gm : Nat) (rest : Array Value) (A1 : Option Addr) (c1 : Nat) (lb : List S70) (v0 : Value) (since now : Int) (w : World) (hcm : gc ≠ gm) (hc : w.heap[gc]? = some (.cells #[.slice A1 lb.length c1, v0] 95 (0, 0))) (hm : w.heap[gm]? = some (.cells (mcells since rest) 38 (0, 0))) (hr : Kd.C k70 w A1 lb.length lb) (hl : lb.length ≤ c1) (hlb : lb.length ≤ 1000 ∧ 0 < lb.length) (hno : noChg lb since now) : Calls Tryd.prog 47 #[.pointer (some ⟨gc, 0, none⟩), .pointer (some ⟨gm, 0, none⟩), .int .i64 now] w fun e w' => (∃ v, e = .returned v) ∧ Below w.heap.size w w' := by
  have NO := Aside0.mk hno
  clear hno
  have hu38 := Tryd.underlying38
  have CM := Aside0.mk hcm
  have HR := Aside0.mk hr
  have HL := Aside0.mk hl
  have LB := Aside0.mk hlb
  have BKX := Aside0.mk (blk_alloc (blk_new w (.cells #[.pointer (some ⟨gc, 0, none⟩)] 89)) (.cells #[.pointer (some ⟨gm, 0, none⟩)] 93))
  have BKY := Aside0.mk (show ((w.alloc (.cells #[.pointer (some ⟨gc, 0, none⟩)] 89)).alloc (.cells #[.pointer (some ⟨gm, 0, none⟩)] 93)).heap[w.heap.size + 1]? = some (.cells #[.pointer (some ⟨gm, 0, none⟩)] 93 (0, 0)) from by have h_ := blk_new (w.alloc (.cells #[.pointer (some ⟨gc, 0, none⟩)] 89)) (.cells #[.pointer (some ⟨gm, 0, none⟩)] 93); rwa [World.size_alloc] at h_)
  have B2 := Aside0.mk (below_alloc (below_alloc (Below.refl w.heap.size w) (.cells #[.pointer (some ⟨gc, 0, none⟩)] 89)) (.cells #[.pointer (some ⟨gm, 0, none⟩)] 93))
  have BKM := Aside0.mk (blk_below hm B2.out)
  have BKC := Aside0.mk (blk_below hc B2.out)
  have LTC := Aside0.mk (blk_lt hc)
  have LTM := Aside0.mk (blk_lt hm)
  clear hcm hc hm hr hl hlb
  refine (callsIn_wide (n := 5)).1 ?_
  refine callsIn_of_wp_marks Tryd.func47 rfl trivial ?_ rfl
  refine wpIn_mono ?_ noPanic_le
  refine wpIn_wide.2 ?_
  simp only [Tryd.ntmps47, List.size_toArray, List.length_cons, List.length_nil, Nat.reduceAdd, Nat.reduceSub, Array.replicate_succ, Array.replicate_zero, List.push_toArray, List.append_toArray, List.nil_append, List.cons_append]
  go_upto_region 1 with fail
  generalize (w.alloc (.cells #[.pointer (some ⟨gc, 0, none⟩)] 89)).alloc (.cells #[.pointer (some ⟨gm, 0, none⟩)] 93) = w2 at BKX BKY B2 BKM BKC ⊢
  have T0 := Aside0.mk ((blk_cell BKX.out 0).trans rfl : w2.cell? ⟨w.heap.size, 0, none⟩ = some (.pointer (some ⟨gc, 0, none⟩)))
  have T1 := Aside0.mk ((blk_cell BKY.out 0).trans rfl : w2.cell? ⟨w.heap.size + 1, 0, none⟩ = some (.pointer (some ⟨gm, 0, none⟩)))
  have T2 := Aside0.mk (mcell4 BKM.out)
  have BD := Aside0.mk (below_drew (Below.refl w2.heap.size w2))
  refine start_ (n := 7) (S := fun w' => w'.cell? ⟨w.heap.size, 0, none⟩ = some (.pointer (some ⟨gc, 0, none⟩)) ∧ w'.cell? ⟨w.heap.size + 1, 0, none⟩ = some (.pointer (some ⟨gm, 0, none⟩)) ∧ w'.cell? ⟨gm, 4, none⟩ = some (.int .i64 since)) (ds := []) #[false, false, false, false, false, false, false] (by kernel_rfl) rfl rfl ⟨T0.out, T1.out, T2.out⟩ (fun hHeld => ?_)
  generalize w2.drew = w8 at BD hHeld ⊢
  refine with_tabW meter_adv.tab1 meter_adv.bits1 (fun HT_ HW_ => ?_)
  refine pure_ (i := 5) (N := some 12) (v := ?_) (a' := ?_) #[false, false, false, false, false, true, false] rfl rfl (any_of HT_.out (by kernel_rfl)) (fun _ _ _ h => h) (Or.inl ⟨by rfl, ?_⟩) ?_ ?_
  rotate_left
  · intro w'
    go_simp
    with_reducible rfl
  rotate_left
  · simp only [Act.put, List.setIfInBounds_toArray, List.set_cons_zero, List.set_cons_succ, i64_w, i32_w]
    rfl
  refine take_ (i := 0) (N := some 7) (v := ?_) (a' := ?_) #[true, false, false, false, false, true, false] rfl rfl (take_ofW HT_.out HW_.out (by kernel_rfl)) (fun _ _ _ h => h) (Or.inl ⟨by rfl, ?_⟩) hHeld ?_ ?_
  rotate_left
  · rintro w' ⟨s0, s1, s2⟩
    go_simp
    with_reducible rfl
  rotate_left
  · simp only [Act.put, List.setIfInBounds_toArray, List.set_cons_zero, List.set_cons_succ, i64_w, i32_w]
    rfl
  refine take_ (i := 1) (N := some 8) (v := ?_) (a' := ?_) #[true, true, false, false, false, true, false] rfl rfl (take_ofW HT_.out HW_.out (by kernel_rfl)) (fun _ _ _ h => h) (Or.inl ⟨by rfl, ?_⟩) hHeld ?_ ?_
  rotate_left
  · rintro w' ⟨s0, s1, s2⟩
    go_simp
    with_reducible rfl
  rotate_left
  · simp only [Act.put, List.setIfInBounds_toArray, List.set_cons_zero, List.set_cons_succ, i64_w, i32_w]
    rfl
  refine pure_ (i := 2) (N := some 9) (v := ?_) (a' := ?_) #[true, true, true, false, false, true, false] rfl rfl (any_of HT_.out (by kernel_rfl)) (fun _ _ _ h => h) (Or.inl ⟨by rfl, ?_⟩) ?_ ?_
  rotate_left
  · intro w'
    go_simp
    with_reducible rfl
  rotate_left
  · simp only [Act.put, List.setIfInBounds_toArray, List.set_cons_zero, List.set_cons_succ, i64_w, i32_w]
    rfl
  refine pure_ (i := 3) (N := some 10) (v := ?_) (a' := ?_) #[true, true, true, true, false, true, false] rfl rfl (any_of HT_.out (by kernel_rfl)) (fun _ _ _ h => h) (Or.inl ⟨by rfl, ?_⟩) ?_ ?_
  rotate_left
  · intro w'
    go_simp
    with_reducible rfl
  rotate_left
  · simp only [Act.put, List.setIfInBounds_toArray, List.set_cons_zero, List.set_cons_succ, i64_w, i32_w]
    rfl
  refine take_ (i := 4) (N := some 11) (v := ?_) (a' := ?_) #[true, true, true, true, true, true, false] rfl rfl (take_ofW HT_.out HW_.out (by kernel_rfl)) (fun _ _ _ h => h) (Or.inl ⟨by rfl, ?_⟩) hHeld ?_ ?_
  rotate_left
  · rintro w' ⟨s0, s1, s2⟩
    go_simp
    with_reducible rfl
  rotate_left
  · simp only [Act.put, List.setIfInBounds_toArray, List.set_cons_zero, List.set_cons_succ, i64_w, i32_w]
    rfl
  refine one_ (i := 6) (N := some 13) #[true, true, true, true, true, true, true] rfl rfl (one_of HT_.out (by kernel_rfl)) (by decide) (fun K hK => ?_)
  refine goes_ Tryd.func73 (by kernel_rfl) rfl #[.pointer (some ⟨gc, 0, none⟩), .int .i64 since, .int .i64 now] (by rfl) rfl rfl (by simp only [List.map_toArray, List.map_cons, List.map_nil]; rfl) ?_
  with_reducible refine (changes_calls gc since now _).mono ?_
  rintro e wB ⟨g1, g2, g3, rfl, q1, q2, q3, qa, qb, qc, hb9⟩
  refine ⟨_, rfl, ?_⟩
  have BD3 := Aside0.mk (below_step BD.out hb9)
  have E1 := Aside0.mk q1
  have E2 := Aside0.mk q2
  have E3 := Aside0.mk q3
  have GQ := Aside0.mk (And.intro (Nat.le_trans BD.out.size qa) (And.intro qb qc))
  clear hb9 q1 q2 q3 qa qb qc
  refine hK.out _ _ ⟨(BD3.out.cell (World.block_lt_of_cell? w2 _ T0.out)).trans T0.out, (BD3.out.cell (World.block_lt_of_cell? w2 _ T1.out)).trans T1.out, (BD3.out.cell (World.block_lt_of_cell? w2 _ T2.out)).trans T2.out⟩ (fun hHeld => ?_)
  clear hK K
  refine norm_ (a' := ?_) ?_ ?_
  rotate_left
  · show Act.put _ (some 13) _ = _
    simp only [Act.put, List.setIfInBounds_toArray, List.set_cons_zero, List.set_cons_succ, i64_w, i32_w]
    rfl
  refine done_ (done_of HT_.out (by kernel_rfl)) ?_
  
  clear T0 T1 T2 BD
  have EX := Aside0.mk (blk_below BKX.out BD3.out)
  have EY := Aside0.mk (blk_below BKY.out BD3.out)
  have EM := Aside0.mk (blk_below BKM.out BD3.out)
  have EC := Aside0.mk (blk_below BKC.out BD3.out)
  have HB := Aside0.mk (below_step B2.out BD3.out)
  go_wp2

  refine (wpIn_wide (n := 5)).1 (rangeFunc_zero rfl (by omega) (gf := 91) (lb := #[.pointer (some ⟨g1, 0, none⟩), .pointer (some ⟨g2, 0, none⟩), .pointer (some ⟨g3, 0, none⟩)]) rfl trivial (enters_of Tryd.func91 (by kernel_rfl) rfl) ?iter ?done)
  case iter =>
    intro l W hW
    exact callsIn_wide.2 (iter_none l g1 g2 g3 gc A1 c1 lb v0 since now W (blk_below E1.out hW) (blk_below E2.out hW) (blk_below E3.out hW) (blk_below EC.out hW) (Kd.C_below HR.out (below_step HB.out hW)) HL.out LB.out NO.out)
  case done =>
    intro D W hD hbW hK
    refine ⟨by simp, .inl ⟨_, _, rfl, run_takeDeferred hK, ?_⟩⟩
    exact ⟨_, results_none rfl _ _ _, ⟨_, rfl⟩, put_below (below_step HB.out hbW) (Nat.le_trans HB.out.size hD) _⟩
theorem R_growX {W W' : World} {base : Nat} {v : Value} {xs : List S98} {row : Option Nat} (h : Kd.R k98 98 W base (fun _ => True) v xs) (hg : W.grownBy W' row) (hrow : ∀ r, row = some r → r < base ∨ ∃ o : Obj, W.heap[r]? = some o ∧ o.isCells = false) : Kd.R k98 98 W' base (fun _ => True) v xs :=
  Kd.R_mono (Kd.R_grown (Kd.R_bound h) hg (fun k hk e => by
    obtain ⟨_, hb, _, q, _, cells, hc⟩ := hk
    rcases hrow k e.symm with h1 | ⟨o, h1, h2⟩
    · omega
    · rw [hc] at h1
      cases h1
      cases h2)) (fun _ _ => trivial)
theorem grown_off2 {a b : Nat} {w W W' : World} {row : Option Nat} (h : Off2 a b w W) (hg : W.grownBy W' row) (hrow : ∀ r, row = some r → w.heap.size ≤ r) : Off2 a b w W' :=
  ⟨hg.os.trans h.os, hg.tape.trans h.tape, hg.output.trans h.output, Nat.le_trans h.size hg.size, fun k hk ha hb => (hg.block k (Nat.lt_of_lt_of_le hk h.size) (fun e => by have := hrow k e.symm; omega)).trans (h.block k hk ha hb)⟩
set_option maxHeartbeats 4000000 in
set_option maxRecDepth 100000 in
theorem advance_one (rate nx2 : Int) (ok2 : Bool) (w0 : World) (gc gm : Nat) (rest : Array Value) (A1 : Option Addr) (c1 : Nat) (lb : List S70) (v0 : Value) (since now : Int) (w : World) (hcm : gc ≠ gm) (hc : w.heap[gc]? = some (.cells #[.slice A1 lb.length c1, v0] 95 (0, 0))) (hm : w.heap[gm]? = some (.cells (mcells since rest) 38 (0, 0))) (hr : Kd.C k70 w A1 lb.length lb) (hl : lb.length ≤ c1) (hlb : lb.length ≤ 1000 ∧ 0 < lb.length) (hvn : v0 = .slice none 0 0) (hnf : ¬ flatB lb) (hce : tariff_Change.f 100 lb since = some (now, true, 0)) (hce2 : tariff_Change.f 100 lb now = some (nx2, ok2, 0)) (hok : ok2 = false ∨ now < nx2) (hre : tariff_Rate.f 100 lb since = some (rate, 0)) (hr0 : Kd.C k70 w0 A1 lb.length lb) (hb0 : Below w0.heap.size w0 w) (hge : w0.heap.size ≤ gc ∧ w0.heap.size ≤ gm) :
    Calls Tryd.prog 47 #[.pointer (some ⟨gc, 0, none⟩), .pointer (some ⟨gm, 0, none⟩), .int .i64 now] w fun e w' => ∃ v1 : Value, (∃ v, e = .returned v) ∧ w'.heap[gc]? = some (.cells #[.slice A1 lb.length c1, v1] 95 (0, 0)) ∧ w'.heap[gm]? = some (.cells (mcells now rest) 38 (0, 0)) ∧ Kd.R k98 98 w' w.heap.size (fun _ => True) v1 [⟨1, 1, 0, one1, since, now, rate, wrap64 (rate * wrap64 (now - since))⟩] ∧ Off2 gc gm w w' := by
  have NF := Aside0.mk hnf
  have CE := Aside0.mk hce
  have CE2 := Aside0.mk hce2
  have OK2 := Aside0.mk hok
  have RE := Aside0.mk hre
  have HR0 := Aside0.mk hr0
  have B0 := Aside0.mk hb0
  have GEE := Aside0.mk hge
  have VN := Aside0.mk hvn
  clear hnf hce hce2 hok hre hr0 hb0 hge hvn
  have hu38 := Tryd.underlying38
  have CM := Aside0.mk hcm
  have HR := Aside0.mk hr
  have HL := Aside0.mk hl
  have LB := Aside0.mk hlb
  have BKX := Aside0.mk (blk_alloc (blk_new w (.cells #[.pointer (some ⟨gc, 0, none⟩)] 89)) (.cells #[.pointer (some ⟨gm, 0, none⟩)] 93))
  have BKY := Aside0.mk (show ((w.alloc (.cells #[.pointer (some ⟨gc, 0, none⟩)] 89)).alloc (.cells #[.pointer (some ⟨gm, 0, none⟩)] 93)).heap[w.heap.size + 1]? = some (.cells #[.pointer (some ⟨gm, 0, none⟩)] 93 (0, 0)) from by have h_ := blk_new (w.alloc (.cells #[.pointer (some ⟨gc, 0, none⟩)] 89)) (.cells #[.pointer (some ⟨gm, 0, none⟩)] 93); rwa [World.size_alloc] at h_)
  have B2 := Aside0.mk (below_alloc (below_alloc (Below.refl w.heap.size w) (.cells #[.pointer (some ⟨gc, 0, none⟩)] 89)) (.cells #[.pointer (some ⟨gm, 0, none⟩)] 93))
  have BKM := Aside0.mk (blk_below hm B2.out)
  have BKC := Aside0.mk (blk_below hc B2.out)
  have LTC := Aside0.mk (blk_lt hc)
  have LTM := Aside0.mk (blk_lt hm)
  clear hcm hc hm hr hl hlb
  refine (callsIn_wide (n := 5)).1 ?_
  refine callsIn_of_wp_marks Tryd.func47 rfl trivial ?_ rfl
  refine wpIn_mono ?_ noPanic_le
  refine wpIn_wide.2 ?_
  simp only [Tryd.ntmps47, List.size_toArray, List.length_cons, List.length_nil, Nat.reduceAdd, Nat.reduceSub, Array.replicate_succ, Array.replicate_zero, List.push_toArray, List.append_toArray, List.nil_append, List.cons_append]
  go_upto_region 1 with fail
  generalize (w.alloc (.cells #[.pointer (some ⟨gc, 0, none⟩)] 89)).alloc (.cells #[.pointer (some ⟨gm, 0, none⟩)] 93) = w2 at BKX BKY B2 BKM BKC ⊢
  have T0 := Aside0.mk ((blk_cell BKX.out 0).trans rfl : w2.cell? ⟨w.heap.size, 0, none⟩ = some (.pointer (some ⟨gc, 0, none⟩)))
  have T1 := Aside0.mk ((blk_cell BKY.out 0).trans rfl : w2.cell? ⟨w.heap.size + 1, 0, none⟩ = some (.pointer (some ⟨gm, 0, none⟩)))
  have T2 := Aside0.mk (mcell4 BKM.out)
  have BD := Aside0.mk (below_drew (Below.refl w2.heap.size w2))
  refine start_ (n := 7) (S := fun w' => w'.cell? ⟨w.heap.size, 0, none⟩ = some (.pointer (some ⟨gc, 0, none⟩)) ∧ w'.cell? ⟨w.heap.size + 1, 0, none⟩ = some (.pointer (some ⟨gm, 0, none⟩)) ∧ w'.cell? ⟨gm, 4, none⟩ = some (.int .i64 since)) (ds := []) #[false, false, false, false, false, false, false] (by kernel_rfl) rfl rfl ⟨T0.out, T1.out, T2.out⟩ (fun hHeld => ?_)
  generalize w2.drew = w8 at BD hHeld ⊢
  refine with_tabW meter_adv.tab1 meter_adv.bits1 (fun HT_ HW_ => ?_)
  refine pure_ (i := 5) (N := some 12) (v := ?_) (a' := ?_) #[false, false, false, false, false, true, false] rfl rfl (any_of HT_.out (by kernel_rfl)) (fun _ _ _ h => h) (Or.inl ⟨by rfl, ?_⟩) ?_ ?_
  rotate_left
  · intro w'
    go_simp
    with_reducible rfl
  rotate_left
  · simp only [Act.put, List.setIfInBounds_toArray, List.set_cons_zero, List.set_cons_succ, i64_w, i32_w]
    rfl
  refine take_ (i := 0) (N := some 7) (v := ?_) (a' := ?_) #[true, false, false, false, false, true, false] rfl rfl (take_ofW HT_.out HW_.out (by kernel_rfl)) (fun _ _ _ h => h) (Or.inl ⟨by rfl, ?_⟩) hHeld ?_ ?_
  rotate_left
  · rintro w' ⟨s0, s1, s2⟩
    go_simp
    with_reducible rfl
  rotate_left
  · simp only [Act.put, List.setIfInBounds_toArray, List.set_cons_zero, List.set_cons_succ, i64_w, i32_w]
    rfl
  refine take_ (i := 1) (N := some 8) (v := ?_) (a' := ?_) #[true, true, false, false, false, true, false] rfl rfl (take_ofW HT_.out HW_.out (by kernel_rfl)) (fun _ _ _ h => h) (Or.inl ⟨by rfl, ?_⟩) hHeld ?_ ?_
  rotate_left
  · rintro w' ⟨s0, s1, s2⟩
    go_simp
    with_reducible rfl
  rotate_left
  · simp only [Act.put, List.setIfInBounds_toArray, List.set_cons_zero, List.set_cons_succ, i64_w, i32_w]
    rfl
  refine pure_ (i := 2) (N := some 9) (v := ?_) (a' := ?_) #[true, true, true, false, false, true, false] rfl rfl (any_of HT_.out (by kernel_rfl)) (fun _ _ _ h => h) (Or.inl ⟨by rfl, ?_⟩) ?_ ?_
  rotate_left
  · intro w'
    go_simp
    with_reducible rfl
  rotate_left
  · simp only [Act.put, List.setIfInBounds_toArray, List.set_cons_zero, List.set_cons_succ, i64_w, i32_w]
    rfl
  refine pure_ (i := 3) (N := some 10) (v := ?_) (a' := ?_) #[true, true, true, true, false, true, false] rfl rfl (any_of HT_.out (by kernel_rfl)) (fun _ _ _ h => h) (Or.inl ⟨by rfl, ?_⟩) ?_ ?_
  rotate_left
  · intro w'
    go_simp
    with_reducible rfl
  rotate_left
  · simp only [Act.put, List.setIfInBounds_toArray, List.set_cons_zero, List.set_cons_succ, i64_w, i32_w]
    rfl
  refine take_ (i := 4) (N := some 11) (v := ?_) (a' := ?_) #[true, true, true, true, true, true, false] rfl rfl (take_ofW HT_.out HW_.out (by kernel_rfl)) (fun _ _ _ h => h) (Or.inl ⟨by rfl, ?_⟩) hHeld ?_ ?_
  rotate_left
  · rintro w' ⟨s0, s1, s2⟩
    go_simp
    with_reducible rfl
  rotate_left
  · simp only [Act.put, List.setIfInBounds_toArray, List.set_cons_zero, List.set_cons_succ, i64_w, i32_w]
    rfl
  refine one_ (i := 6) (N := some 13) #[true, true, true, true, true, true, true] rfl rfl (one_of HT_.out (by kernel_rfl)) (by decide) (fun K hK => ?_)
  refine goes_ Tryd.func73 (by kernel_rfl) rfl #[.pointer (some ⟨gc, 0, none⟩), .int .i64 since, .int .i64 now] (by rfl) rfl rfl (by simp only [List.map_toArray, List.map_cons, List.map_nil]; rfl) ?_
  with_reducible refine (changes_calls gc since now _).mono ?_
  rintro e wB ⟨g1, g2, g3, rfl, q1, q2, q3, qa, qb, qc, hb9⟩
  refine ⟨_, rfl, ?_⟩
  have BD3 := Aside0.mk (below_step BD.out hb9)
  have E1 := Aside0.mk q1
  have E2 := Aside0.mk q2
  have E3 := Aside0.mk q3
  have GQ := Aside0.mk (And.intro (Nat.le_trans BD.out.size qa) (And.intro qb qc))
  clear hb9 q1 q2 q3 qa qb qc
  refine hK.out _ _ ⟨(BD3.out.cell (World.block_lt_of_cell? w2 _ T0.out)).trans T0.out, (BD3.out.cell (World.block_lt_of_cell? w2 _ T1.out)).trans T1.out, (BD3.out.cell (World.block_lt_of_cell? w2 _ T2.out)).trans T2.out⟩ (fun hHeld => ?_)
  clear hK K
  refine norm_ (a' := ?_) ?_ ?_
  rotate_left
  · show Act.put _ (some 13) _ = _
    simp only [Act.put, List.setIfInBounds_toArray, List.set_cons_zero, List.set_cons_succ, i64_w, i32_w]
    rfl
  refine done_ (done_of HT_.out (by kernel_rfl)) ?_
  
  clear T0 T1 T2 BD
  have EX := Aside0.mk (blk_below BKX.out BD3.out)
  have EY := Aside0.mk (blk_below BKY.out BD3.out)
  have EM := Aside0.mk (blk_below BKM.out BD3.out)
  have EC := Aside0.mk (blk_below BKC.out BD3.out)
  have HB := Aside0.mk (below_step B2.out BD3.out)
  go_wp2

  have LTB : wB.heap.size ≥ w.heap.size := HB.out.size
  have LT2 : g2 < wB.heap.size := blk_lt E2.out
  have G2 : w2.heap.size ≥ w.heap.size := B2.out.size
  have GX : w.heap.size + 1 < w2.heap.size := blk_lt BKY.out
  have LG := Aside0.mk (And.intro LTB (And.intro LT2 (And.intro G2 GX)))
  clear LTB LT2 G2 GX
  refine (wpIn_wide (n := 5)).1 (rangeFunc_one rfl (by omega) (gf := 91) (lb := #[.pointer (some ⟨g1, 0, none⟩), .pointer (some ⟨g2, 0, none⟩), .pointer (some ⟨g3, 0, none⟩)]) rfl trivial (enters_of Tryd.func91 (by kernel_rfl) rfl)
    (.int .i64 now) gc gm g2 (by have := LTC.out; have := LG.out.1; omega) (by have := LTM.out; have := LG.out.1; omega) LG.out.2.1
    (fun W => ∃ v1 : Value, W.heap[gc]? = some (.cells #[.slice A1 lb.length c1, v1] 95 (0, 0)) ∧ W.heap[gm]? = some (.cells (mcells now rest) 38 (0, 0)) ∧ Kd.R k98 98 W wB.heap.size (fun _ => True) v1 [⟨1, 1, 0, one1, since, now, rate, wrap64 (rate * wrap64 (now - since))⟩] ∧ Off2 gc gm w W)
    (fun W => ∃ v1 : Value, W.heap[gc]? = some (.cells #[.slice A1 lb.length c1, v1] 95 (0, 0))) (fun W h => by obtain ⟨v1, h1, _⟩ := h; exact ⟨v1, h1⟩) ?hJ
    { tmps := #[.pointer (some ⟨gc, 0, none⟩), .pointer (some ⟨gm, 0, none⟩), .int .i64 now, .pointer (some ⟨w.heap.size, 0, none⟩), .pointer (some ⟨w.heap.size + 1, 0, none⟩), undef, .int .i64 now, .pointer (some ⟨gc, 0, none⟩), .pointer (some ⟨gm, 0, none⟩), .pointer (some ⟨gm, 0, none⟩), .pointer (some ⟨gm, 4, none⟩), .int .i64 since, .int .i64 now, .func (.func 91) #[] #[.pointer (some ⟨g1, 0, none⟩), .pointer (some ⟨g2, 0, none⟩), .pointer (some ⟨g3, 0, none⟩)], .int .i64 now, undef, undef, undef, undef, undef, undef], defers := [] } ?assign ?body ?iter ?done)
  case hJ =>
    rintro W W' row ⟨v1, h1, h2, h3, h4⟩ hg hrow
    have l1 := LTC.out
    have l2 := LTM.out
    obtain ⟨l3, l4, l5, l6⟩ := LG.out
    obtain ⟨l7, l8, l9⟩ := GQ.out
    have hr : ∀ r, row = some r → w.heap.size ≤ r ∧ (r < wB.heap.size ∨ ∃ o : Obj, W.heap[r]? = some o ∧ o.isCells = false) := fun r e => by
      rcases hrow r e with h | ⟨h, o, ho⟩
      · exact ⟨by omega, .inl (by omega)⟩
      · exact ⟨by omega, .inr ⟨o, ho⟩⟩
    exact ⟨v1, blk_grown h1 hg (fun e => by have := (hr gc e.symm).1; omega), blk_grown h2 hg (fun e => by have := (hr gm e.symm).1; omega), R_growX h3 hg (fun r e => (hr r e).2), grown_off2 h4 hg (fun r e => (hr r e).1)⟩
  case assign =>
    intro l W K hK
    gi_wp2
    exact hK
  case body =>
    intro l W hW
    have FX := Aside0.mk (blk_below EX.out hW)
    have FY := Aside0.mk (blk_below EY.out hW)
    have FM := Aside0.mk (blk_below EM.out hW)
    have FC := Aside0.mk (show W.heap[gc]? = some (.cells #[.slice A1 lb.length c1, .slice none 0 0] 95 (0, 0)) from by rw [← VN.out]; exact blk_below EC.out hW)
    have HW := Aside0.mk hW
    clear hW
    have hx0 : W.cell? ⟨w.heap.size, 0, none⟩ = some (.pointer (some ⟨gc, 0, none⟩)) := (blk_cell FX.out 0).trans rfl
    have hy0 : W.cell? ⟨w.heap.size + 1, 0, none⟩ = some (.pointer (some ⟨gm, 0, none⟩)) := (blk_cell FY.out 0).trans rfl
    gi_wp2_with (first
      | (refine ⟨trivial, ?_⟩; gi_at_call 51; refine (CallsIn.inRound l (callsIn_wide.2 (cut_calls gc gm rest A1 c1 lb since now rate W CM.out FC.out FM.out (Kd.C_below HR.out (below_step HB.out HW.out)) HL.out RE.out))).mono ?_; rintro e W3 ⟨v1, ⟨x_, rfl⟩, hc3, hm3, hr3, ho3⟩; obtain ⟨Ao, co, eo⟩ := Kd.R_slice hr3; subst eo; have hx1_ : W3.cell? ⟨w.heap.size, 0, none⟩ = some (.pointer (some ⟨gc, 0, none⟩)) := (blk_cell (ho3.blk FX.out (by have := LTC.out; omega) (by have := LTM.out; omega)) 0).trans rfl; have C3 := Aside0.mk hc3; have M3 := Aside0.mk hm3; have R3 := Aside0.mk hr3; have O3 := Aside0.mk ho3; clear hc3 hm3 hr3 ho3 hx0 hy0)
      | (refine ⟨trivial, ?_⟩; gi_at_call 48; refine (CallsIn.inRound l (callsIn_wide.2 (full_calls gc A1 lb.length c1 _ 1 co Ao rfl W3 (by omega) C3.out))).mono ?_; rintro e W4 ⟨rfl, hb4⟩))
    exact ⟨⟨_, blk_below C3.out hb4, blk_below M3.out hb4, Kd.R_below (Kd.R_lower R3.out HW.out.size) hb4, (Off2.of_below HB.out).trans ((Off2.of_below (HW.out.mono (Nat.le_refl _))).trans (O3.out.trans (Off2.of_below hb4)))⟩, O3.out.trans (Off2.of_below hb4)⟩
  case iter =>
    intro l W R hW hY
    have l1 := LTC.out
    have l2 := LTM.out
    obtain ⟨l3, l4, l5, l6⟩ := LG.out
    obtain ⟨l7, l8, l9⟩ := GQ.out
    obtain ⟨l10, l11⟩ := GEE.out
    exact iter_one 4 l g1 g2 g3 gc A1 c1 lb v0 since now nx2 ok2 gm w0 W R (blk_below E1.out hW) (blk_below E2.out hW) (blk_below E3.out hW) (blk_below EC.out hW) HR0.out HL.out LB.out NF.out CE.out CE2.out OK2.out (below_step (below_step B0.out HB.out) hW) ⟨l10, l11, by omega⟩ ⟨⟨by omega, by omega, by omega⟩, ⟨by omega, by omega⟩, by omega, by omega, by omega⟩ hY
  case done =>
    intro D W hD hj hK
    obtain ⟨v1, h1, h2, h3, h4⟩ := hj
    have l1 := LTC.out
    have l2 := LTM.out
    obtain ⟨l3, l4, l5, l6⟩ := LG.out
    refine ⟨by simp, .inl ⟨_, _, rfl, run_takeDeferred hK, ?_⟩⟩
    exact ⟨_, results_none rfl _ _ _, v1, ⟨_, rfl⟩, (World.putObj_heap_other (by omega)).trans h1, (World.putObj_heap_other (by omega)).trans h2, Kd.R_lower (R_growX h3 (grownBy_putObj' _ _ _) (fun r e => by cases e; exact .inr ⟨_, hK, rfl⟩)) l3, grown_off2 h4 (grownBy_putObj' _ _ _) (fun r e => by cases e; omega)⟩
end Go.Proofs.YtldpacphackdjaaDoor.Print
