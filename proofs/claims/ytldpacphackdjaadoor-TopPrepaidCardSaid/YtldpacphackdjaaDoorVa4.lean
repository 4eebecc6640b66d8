/- Parts of the proofs of layer 28's laws, joined in one file by a program of the session; each part begins with its own sentence. -/
import Derived.RangeFuncNested
import Derived.RangeFuncBound
import Derived.RangeFuncCalls
import Derived.RangeFuncLeaves
import Derived.RangeFuncWrites
import Derived.Test.YtldpacphackdjaaDoorVaHMCut
import Derived.Test.YtldpacphackdjaaDoorVaSq
import Derived.Test.YtldpacphackdjaaDoorVa3
import Derived.Test.YtldpacphackdjaaDoorVaK0
/- A range over a function of which is known that it calls its body never, or once at a known number and then stores into one cell of its own. Conditions: what the iterator and the body keep. -/
namespace Go.Proofs.YtldpacphackdjaaDoor.Print
open Go.RowKit Go.Proofs.YtldpacphackdjaaDoorW.PrintWords Go.Proofs.YtldpacphackdjaaDoorW.PrintLast Go.Proofs.YtldpacphackdjaaDoorW.PrintMore
set_option linter.unusedVariables false
set_option linter.unusedSimpArgs false
variable {F : Fence} {n : Nat} {P : Program}
theorem put_below {w W : World} {l : Nat} (h : Below w.heap.size w W) (hl : w.heap.size ≤ l) (o : Obj) : Below w.heap.size w (W.putObj l o) :=
  h.grown (grownBy_putObj' W l o) h.size (fun k e => by cases e; exact hl)
/-- No round. -/
theorem rangeFunc_zero {g : Operand} {ps : Array Tmp} {assign body : Code} {Q : Exit → Act → World → Prop} {a : Act} {w : World}
    (hro : F.round = none) (h1 : 1 ≤ n) {gf : Nat} {lb : Array Value} (hg : a.eval g = .func (.func gf) #[] lb) (hFg : F.fn gf) (eg : ∀ args w, (callFunc gf args).run P w = .ok (.enter gf args) w)
    (hiter : ∀ (l : Nat) (W : World), Below w.heap.size w W → CallsIn F (n - 1) P gf (#[.func (.yield l) #[] #[]] ++ lb) W fun e W' => (∃ v, e = .returned v) ∧ Below W.heap.size W W')
    (hdone : ∀ (D : Nat) (W : World), w.heap.size ≤ D → Below w.heap.size w W → W.heap[D]? = some (.deferred (some [])) → Q .normal { a with defers := { target := .collected D, args := #[] } :: a.defers } W) :
    (Code.rangeFunc g ps assign body).wpIn F n P Q a w := by
  refine wpIn_rangeFunc ?_
  intro fn hfn
  rw [hro]
  obtain ⟨rec, hrec⟩ : ∃ rec : LoopState → Option Code → Loop, rec = fun st pe => { state := st, pending := pe, fn, tmps := a.tmps, params := ps, assign, body, defers := w.heap.size } := ⟨_, rfl⟩
  obtain ⟨W1, hW1⟩ : ∃ W1, (w.alloc (.deferred (some []))).alloc (.loop (rec .ready none)) = W1 := ⟨_, rfl⟩
  have hL1 : W1.heap[w.heap.size + 1]? = some (.loop (rec .ready none)) := by
    rw [← hW1]; have := World.alloc_heap_new (w.alloc (.deferred (some []))) (.loop (rec .ready none)); rwa [World.size_alloc] at this
  have hK1 : W1.heap[w.heap.size]? = some (.deferred (some [])) := by
    rw [← hW1]; exact (Below.heap_alloc _ _ _ (by simp)).trans (World.alloc_heap_new w _)
  have hb1 : Below w.heap.size w W1 := by
    rw [← hW1]; exact ((Below.refl _ w).alloc (Nat.le_refl _) _).alloc (by simp) _
  refine ⟨w.heap.size + 1, [{ target := .collected w.heap.size, args := #[] }], W1, { target := .fn (.func gf) lb, args := #[.func (.yield (w.heap.size + 1)) #[] #[]] }, W1, gf,
    #[.func (.yield (w.heap.size + 1)) #[] #[]] ++ lb, W1, ?_, ?_, ?_, ?_, fun _ => h1, ?_⟩
  · rw [← hW1, hrec]; exact run_enterLoop_outer _ _ _ _ _
  · simp only [resolve, hg]
    simp [go_sem]
  · intro f' hf'; simp [Target.leads] at hf'; subst hf'; exact hFg
  · simp [invoke, go_sem, eg]
  · refine (hiter _ W1 hb1).mono ?_
    rintro e W2 ⟨⟨v, rfl⟩, hb2⟩
    have hl2 := (hb2.block _ (blk_lt hL1)).trans hL1
    have hk2 := (hb2.block _ (blk_lt hK1)).trans hK1
    refine ⟨none, _, by have := run_endLoop (P := P) hl2 (by rw [hrec]; simp); rw [hrec] at this; exact this, ?_⟩
    exact hdone _ _ (Nat.le_refl _) (put_below (below_step hb1 hb2) (Nat.le_succ _) _) ((World.putObj_heap_other (by omega)).trans hk2)
/-- One round. -/
theorem rangeFunc_one {g : Operand} {p : Tmp} {assign body : Code} {Q : Exit → Act → World → Prop} {a : Act} {w : World}
    (hro : F.round = none) (h1 : 1 ≤ n) {gf : Nat} {lb : Array Value} (hg : a.eval g = .func (.func gf) #[] lb) (hFg : F.fn gf) (eg : ∀ args w, (callFunc gf args).run P w = .ok (.enter gf args) w)
    (x : Value) (gc gm gfr : Nat) (hc : gc < w.heap.size) (hm : gm < w.heap.size) (hf : gfr < w.heap.size) (J Z : World → Prop) (hJZ : ∀ W, J W → Z W)
    (hJ : ∀ (W W' : World) (row : Option Nat), J W → W.grownBy W' row → (∀ r, row = some r → r = gfr ∨ w.heap.size ≤ r ∧ ∃ o : Obj, W.heap[r]? = some o ∧ o.isCells = false) → J W')
    (a₁ : Act)
    (hassign : ∀ (l : Nat) (W : World) (K : Act → World → Prop), K a₁ W → assign.wpIn (F.inRound l) (n - 1 - 1) P (Exit.then K (fun _ _ _ => False)) { tmps := a.tmps.setIfInBounds p x, defers := [] } W)
    (hbody : ∀ (l : Nat) (W : World), Below w.heap.size w W → body.wpIn (F.inRound l) (n - 1 - 1) P (fun e _ W' => e = .normal ∧ J W' ∧ Off2 gc gm W W') a₁ W)
    (hiter : ∀ (l : Nat) (W : World) (R : World → Prop), Below w.heap.size w W → (∀ W1, Below W.heap.size W W1 → YieldAt F (n - 1 - 1) P l #[x] W1 fun e W2 => e = .returned (.bool true) ∧ R W2 ∧ Z W2 ∧ Off2 gc gm W1 W2) → CallsIn F (n - 1) P gf (#[.func (.yield l) #[] #[]] ++ lb) W fun e W' => (∃ v, e = .returned v) ∧ ∃ W2, R W2 ∧ W2.grownBy W' (some gfr))
    (hdone : ∀ (D : Nat) (W : World), w.heap.size ≤ D → J W → W.heap[D]? = some (.deferred (some [])) → Q .normal { a with defers := { target := .collected D, args := #[] } :: a.defers } W) :
    (Code.rangeFunc g #[p] assign body).wpIn F n P Q a w := by
  refine wpIn_rangeFunc ?_
  intro fn hfn
  rw [hro]
  obtain ⟨rec, hrec⟩ : ∃ rec : LoopState → Option Code → Loop, rec = fun st pe => { state := st, pending := pe, fn, tmps := a.tmps, params := #[p], assign, body, defers := w.heap.size } := ⟨_, rfl⟩
  obtain ⟨W1, hW1⟩ : ∃ W1, (w.alloc (.deferred (some []))).alloc (.loop (rec .ready none)) = W1 := ⟨_, rfl⟩
  have hL1 : W1.heap[w.heap.size + 1]? = some (.loop (rec .ready none)) := by
    rw [← hW1]; have := World.alloc_heap_new (w.alloc (.deferred (some []))) (.loop (rec .ready none)); rwa [World.size_alloc] at this
  have hK1 : W1.heap[w.heap.size]? = some (.deferred (some [])) := by
    rw [← hW1]; exact (Below.heap_alloc _ _ _ (by simp)).trans (World.alloc_heap_new w _)
  have hb1 : Below w.heap.size w W1 := by
    rw [← hW1]; exact ((Below.refl _ w).alloc (Nat.le_refl _) _).alloc (by simp) _
  refine ⟨w.heap.size + 1, [{ target := .collected w.heap.size, args := #[] }], W1, { target := .fn (.func gf) lb, args := #[.func (.yield (w.heap.size + 1)) #[] #[]] }, W1, gf,
    #[.func (.yield (w.heap.size + 1)) #[] #[]] ++ lb, W1, ?_, ?_, ?_, ?_, fun _ => h1, ?_⟩
  · rw [← hW1, hrec]; exact run_enterLoop_outer _ _ _ _ _
  · simp only [resolve, hg]
    simp [go_sem]
  · intro f' hf'; simp [Target.leads] at hf'; subst hf'; exact hFg
  · simp [invoke, go_sem, eg]
  · refine (hiter (w.heap.size + 1) W1 (fun W => J W ∧ W.heap[w.heap.size + 1]? = some (.loop (rec .ready none)) ∧ W.heap[w.heap.size]? = some (.deferred (some []))) hb1 ?_).mono ?_
    · -- the round
      intro W hbW
      have hl := (hbW.block _ (blk_lt hL1)).trans hL1
      have hk := (hbW.block _ (blk_lt hK1)).trans hK1
      have hbw : Below w.heap.size w W := below_step hb1 hbW
      have hlt : w.heap.size + 1 < W.heap.size := blk_lt hl
      have hy := run_yield (P := P) (args := #[x]) hl (by rw [hrec]; rfl)
      rw [hrec] at hy
      have hy2 : (Instr.yield (w.heap.size + 1) #[x]).run P W = .ok (.round (w.heap.size + 1) fn (a.tmps.setIfInBounds p x) assign body) W := by simpa using hy
      refine ⟨fn, _, assign, body, hy2, roundIn_of_wpIn hfn (hassign _ W _ ⟨_, run_beginRound hl (by rw [hrec]), ?_⟩)⟩
      have hl2 : (W.putObj (w.heap.size + 1) (.loop { rec .ready none with state := .busy })).heap[w.heap.size + 1]? = some (.loop { rec .ready none with state := .busy }) := World.putObj_heap_same hlt
      have hk2 : (W.putObj (w.heap.size + 1) (.loop { rec .ready none with state := .busy })).heap[w.heap.size]? = some (.deferred (some [])) := (World.putObj_heap_other (by omega)).trans hk
      refine wpIn_mono (hbody _ _ (put_below hbw (Nat.le_succ _) _)) ?_
      rintro e a3 W3 ⟨rfl, hJ3, ho3⟩
      have hl3 := ho3.blk hl2 (by omega) (by omega)
      have hk3 := ho3.blk hk2 (by omega) (by omega)
      have her := run_endRound (P := P) none hl3
      rw [hrec] at her
      refine ⟨_, _, her, rfl, ⟨hJ _ _ (some (w.heap.size + 1)) hJ3 (grownBy_putObj' _ _ _) (fun r e => by cases e; exact .inr ⟨Nat.le_succ _, _, hl3, rfl⟩), by rw [hrec]; exact World.putObj_heap_same (blk_lt hl3), (World.putObj_heap_other (by omega)).trans hk3⟩, hJZ _ (hJ _ _ (some (w.heap.size + 1)) hJ3 (grownBy_putObj' _ _ _) (fun r e => by cases e; exact .inr ⟨Nat.le_succ _, _, hl3, rfl⟩)), ?_⟩
      refine ⟨ho3.os, ho3.tape, ho3.output, ?_, fun k hk hka hkb => ?_⟩
      · have := ho3.size
        simpa using this
      · by_cases he : k = w.heap.size + 1
        · subst he
          rw [hl, hrec]
          exact World.putObj_heap_same (blk_lt hl3)
        · have h2 := ho3.block k (by simpa using hk) hka hkb
          exact (World.putObj_heap_other he).trans (h2.trans (World.putObj_heap_other he))
    · -- behind the iterator
      rintro e W' ⟨⟨v, rfl⟩, W2, ⟨hj, hl, hk⟩, hgr⟩
      have hl2 := (hgr.block _ (blk_lt hl) (by simp; omega)).trans hl
      have hk2 := (hgr.block _ (blk_lt hk) (by simp; omega)).trans hk
      have hj2 := hJ _ _ _ hj hgr (fun r e => by cases e; exact .inl rfl)
      refine ⟨none, _, by have := run_endLoop (P := P) hl2 (by rw [hrec]; simp); rw [hrec] at this; exact this, ?_⟩
      exact hdone _ _ (Nat.le_refl _) (hJ _ _ (some (w.heap.size + 1)) hj2 (grownBy_putObj' _ _ _) (fun r e => by cases e; exact .inr ⟨Nat.le_succ _, _, hl2, rfl⟩)) ((World.putObj_heap_other (by omega)).trans hk2)
end Go.Proofs.YtldpacphackdjaaDoor.Print
/- That the call of function 93 (tariff_Change) answers what the Lean function of the same name answers, at every input at which that one answers. (Written by a program of the session, which drives the kit's printer.) -/
namespace Go.Proofs.YtldpacphackdjaaDoor.Print
open Go.RowKit Go.Proofs.YtldpacphackdjaaDoorW.PrintWords Go.Proofs.YtldpacphackdjaaDoorW.PrintLast Go.Proofs.YtldpacphackdjaaDoorW.PrintMore
attribute [local go_sem] max2_int min2_int max_two min_two max_three min_three max_four min_four   -- for this text's walks alone
set_option linter.unusedVariables false
set_option linter.unusedSimpArgs false

/-! ### tariff_Change: function 93 -/
def tariff_Change.l0 : Nat → Int → Int → Int → Int → Int → Int → Int → List (S70) → Option (Int × Bool × Int)
 | 0, _, _, _, _, _, _, _, _ => none
 | k + 1, x6, x7, x8, x9, x10, x31, x32, x574000 => if x32 < x31 then (if (wrap64 (x9 + 1)) = x8 then (if 0 < (x574000.length : Int) then (if ((rd_T70 x574000 0).f1) = x7 then (tariff_Change.l0 k x6 x7 x8 0 (wrap64 (x10 + 86400)) x31 (wrap64 (x32 + 1)) x574000) else (some (wrap64 ((wrap64 (x10 + 86400)) + ((rd_T70 x574000 0).f0)), true, x6))) else (none)) else (if 0 ≤ (wrap64 (x9 + 1)) then (if (wrap64 (x9 + 1)) < (x574000.length : Int) then (if ((rd_T70 x574000 (wrap64 (x9 + 1))).f1) = x7 then (tariff_Change.l0 k x6 x7 x8 (wrap64 (x9 + 1)) x10 x31 (wrap64 (x32 + 1)) x574000) else (some (wrap64 (x10 + ((rd_T70 x574000 (wrap64 (x9 + 1))).f0)), true, x6))) else (none)) else (none))) else (some (0, false, x6))
def tariff_Change.f (k : Nat) (l0_0 : List (S70)) (a1 : Int) : Option (Int × Bool × Int) := (tariff_Rate.f k l0_0 a1).bind fun bt574 => (if bt574.2 = 0 then ((tariff_band.f l0_0 (Int.tmod a1 86400)).bind fun t576 => (tariff_Change.l0 k bt574.2 bt574.1 (l0_0.length : Int) t576 (wrap64 (a1 - (Int.tmod a1 86400))) (l0_0.length : Int) 0 l0_0)) else (some (0, false, bt574.2)))
set_option maxHeartbeats 8000000 in
set_option maxRecDepth 100000 in
theorem tariff_Change.calls (k : Nat) (A0_0 : Option Addr) (c0_0 : Nat) (l0_0 : List (S70)) (a1 : Int) (r1 : Int) (r2 : Bool) (r3 : Int) (w : World) (hr0_0 : Kd.C k70 w A0_0 l0_0.length l0_0) (hc0_0 : l0_0.length ≤ c0_0) (h : tariff_Change.f k l0_0 a1 = some (r1, r2, r3)) :
  Calls Tryd.prog 93 #[.agg #[.slice A0_0 l0_0.length c0_0], .int .i64 a1] w fun e w' => e = .returned (.tuple #[.int .i64 r1, .bool r2, .int .i64 r3]) ∧ Below w.heap.size w w' := by
 have hu24 := Tryd.underlying24
 have HR0_0 := Aside0.mk hr0_0
 have HC0_0 := Aside0.mk hc0_0
 clear hr0_0 hc0_0
 have HB := Aside0.mk (Below.refl w.heap.size w)
 have H : ((tariff_Rate.f k l0_0 a1).bind fun bt574 => (if bt574.2 = 0 then ((tariff_band.f l0_0 (Int.tmod a1 86400)).bind fun t576 => (tariff_Change.l0 k bt574.2 bt574.1 (l0_0.length : Int) t576 (wrap64 (a1 - (Int.tmod a1 86400))) (l0_0.length : Int) 0 l0_0)) else (some (0, false, bt574.2)))) = some (r1, r2, r3) := h
 clear h
 replace H := Option.bind_eq_some_iff.mp H
 obtain ⟨⟨t574, t575⟩, A30, H⟩ := H
 replace H : (if t575 = 0 then ((tariff_band.f l0_0 (Int.tmod a1 86400)).bind fun t576 => (tariff_Change.l0 k t575 t574 (l0_0.length : Int) t576 (wrap64 (a1 - (Int.tmod a1 86400))) (l0_0.length : Int) 0 l0_0)) else (some (0, false, t575))) = some (r1, r2, r3) := H
 have A3 := Aside0.mk A30
 clear A30
 by_cases c4 : t575 = 0
 ·rw [if_pos c4] at H
  have c4b0 : (t575 == 0) = true := beq_iff_eq.mpr c4
  have c4b1 : (t575 != 0) = false := bne_eq_false_iff_eq.mpr c4
  clear c4
  replace H := Option.bind_eq_some_iff.mp H
  obtain ⟨t576, A50, H⟩ := H
  replace H : (tariff_Change.l0 k t575 t574 (l0_0.length : Int) t576 (wrap64 (a1 - (Int.tmod a1 86400))) (l0_0.length : Int) 0 l0_0) = some (r1, r2, r3) := H
  have A5 := Aside0.mk A50
  clear A50
  have H' := Aside0.mk H
  clear H
  go_enter Tryd.func93, Tryd.ntmps93
  go_wp2_with (first | ((with_reducible refine gate_dst (N := 2) rfl ?_); refine box_event ?hg (N := 2) ?hd (cs := #[.slice A0_0 l0_0.length c0_0]) (t := 24) ?hr ?_; (case hd => rfl); (case hg => rfl); (case hr => first | (go_simp; done) | (go_simp; rfl)); intro gb573 hg w6 hbox hb; have n0_ := ls0 HB hb; have n1_ := Aside0.mk (hbox); have n2_ := Aside0.mk ((by rw [hg]; exact (below_size (lb0 HB)) : w.heap.size ≤ gb573)); have n3_ := Aside0.mk ((by rw [hg]; exact (below_size (lb0 HB)) : w.heap.size ≤ gb573)); clear HB; have HB := n0_; have BK573 := n1_; have GW573 := n2_; have GE573 := n3_; clear n0_ n1_ n2_ n3_; clear hb hbox hg; have hcz7_0 := bc BK573 0; have hfz7_0 := blk_frozen BK573.out 0) | ((with_reducible refine gate_callee (f := 33) rfl ?_); refine goesL_ (some 14) rfl rfl Tryd.func33 (by kernel_rfl) rfl #[.agg #[.slice A0_0 l0_0.length c0_0], .int .i64 a1] rfl (by (try simp only [List.map_toArray, List.map_cons, List.map_nil]); first | done | rfl | (simp only [List.length_drop, List.length_take]; rfl)) ?_; (with_reducible refine (tariff_Rate.calls k _ _ l0_0 a1 t574 t575 _ ?side1 ?side2 A3.out).mono ?_); (case side1 => repeat (first | exact (Kd.C_below HR0_0.out HB.out) | (with_reducible refine Kd.C_alloc ?_ _) | (with_reducible refine Kd.C_drewN ?_ _) | (with_reducible refine Kd.C_drew ?_))); (case side2 => exact HC0_0.out); rintro e w8 ⟨rfl, hb⟩; refine ⟨_, rfl, ?_⟩; have n0_ := kl BK573 hb; have n1_ := ls1 HB GE573 hb; clear BK573; clear HB; have BK573 := n0_; have HB := n1_; clear n0_ n1_; (try clear hb); (try clear hb2); (try clear hk); (try clear hi); have hcz9_0 := bc BK573 0; have hfz9_0 := blk_frozen BK573.out 0) | ((with_reducible refine gate_callee (f := 63) rfl ?_); refine goesL_ (some 26) rfl rfl Tryd.func63 (by kernel_rfl) rfl #[.agg #[.slice A0_0 l0_0.length c0_0], .int .i64 (Int.tmod a1 86400)] rfl (by (try simp only [List.map_toArray, List.map_cons, List.map_nil]); first | done | rfl | (simp only [List.length_drop, List.length_take]; rfl)) ?_; (with_reducible refine (tariff_band.calls _ _ l0_0 (Int.tmod a1 86400) t576 _ ?side1 ?side2 A5.out).mono ?_); (case side1 => repeat (first | exact (Kd.C_below HR0_0.out HB.out) | (with_reducible refine Kd.C_alloc ?_ _) | (with_reducible refine Kd.C_drewN ?_ _) | (with_reducible refine Kd.C_drew ?_))); (case side2 => exact HC0_0.out); rintro e w10 ⟨rfl, hb⟩; refine ⟨_, rfl, ?_⟩; have n0_ := kl BK573 hb; have n1_ := ls1 HB GE573 hb; clear BK573; clear HB; have BK573 := n0_; have HB := n1_; clear n0_ n1_; (try clear hb); (try clear hb2); (try clear hk); (try clear hi)))
  go_loopg [6, 9, 10, 32] k (fun kq v6 v9 v10 v32 w' => ∃ (x6_1 : Int) (x9_1 : Int) (x10_1 : Int) (x32_1 : Int), v6 = .int .i64 x6_1 ∧ v9 = .int .i64 x9_1 ∧ v10 = .int .i64 x10_1 ∧ v32 = .int .i64 x32_1 ∧ Aside0 (tariff_Change.l0 kq x6_1 t574 (l0_0.length : Int) x9_1 x10_1 (l0_0.length : Int) x32_1 l0_0 = some (r1, r2, r3)) ∧ Aside0 (kq ≤ k) ∧ Aside0 (w'.heap[gb573]? = some (.cells #[(.slice A0_0 l0_0.length c0_0)] 24 (0, 0))) ∧ Aside0 (Below w.heap.size w w'))
  case atStart => exact ⟨(t575), (t576), (wrap64 (a1 - (Int.tmod a1 86400))), (0), (by first | rfl | (simp; done) | (simp [*]; done)), (by first | rfl | (simp; done) | (simp [*]; done)), (by first | rfl | (simp; done) | (simp [*]; done)), (by first | rfl | (simp; done) | (simp [*]; done)), H', ⟨Nat.le_refl _⟩, ⟨kb BK573⟩, ⟨lb1 HB GE573⟩⟩
  case round =>
   clear H'
   try clear p2; try clear c3; try clear c4; try clear c4b0; try clear c4b1; try clear c6; try clear p6; try clear c9; try clear hcz7_0; try clear hcz9_0; try clear hfz7_0; try clear hfz9_0
   obtain ⟨x6_1, x9_1, x10_1, x32_1, rfl, rfl, rfl, rfl, HA, HK1, BK573, HB⟩ := hrel
   cases gk with
   | zero => exact absurd HA.out (by simp [tariff_Change.l0])
   | succ k1 =>
    have H := HA.out
    clear HA
    simp only [tariff_Change.l0] at H
    by_cases c11 : x32_1 < (l0_0.length : Int)
    ·rw [if_pos c11] at H
     have c11b0 : decide (x32_1 < (l0_0.length : Int)) = true := decide_eq_true c11
     clear c11
     by_cases c12 : (wrap64 (x9_1 + 1)) = (l0_0.length : Int)
     ·rw [if_pos c12] at H
      have c12b0 : ((wrap64 (x9_1 + 1)) == (l0_0.length : Int)) = true := beq_iff_eq.mpr c12
      have c12b1 : ((wrap64 (x9_1 + 1)) != (l0_0.length : Int)) = false := bne_eq_false_iff_eq.mpr c12
      clear c12
      by_cases c13 : 0 < (l0_0.length : Int)
      ·rw [if_pos c13] at H
       have c13b0 : decide (0 < (l0_0.length : Int)) = true := decide_eq_true c13
       have c13b1 : decide (0 < l0_0.length) = true := decide_eq_true (by omega)
       clear c13
       by_cases c14 : ((rd_T70 l0_0 0).f1) = t574
       ·rw [if_pos c14] at H
        have c14b0 : (((rd_T70 l0_0 0).f1) == t574) = true := beq_iff_eq.mpr c14
        have c14b1 : (((rd_T70 l0_0 0).f1) != t574) = false := bne_eq_false_iff_eq.mpr c14
        clear c14
        have H' := Aside0.mk H
        clear H
        have hcz15_0 := bc BK573 0
        have hfz15_0 := blk_frozen BK573.out 0
        have p577 : 0 ≤ (0 : Int) := (by omega)
        have q577 : 0 < (l0_0.length : Int) := of_decide_eq_true (by first | (with_reducible assumption) | assumption)
        obtain ⟨ad577, e577, hx577_0, hx577_1⟩ := at_T70 HR0_0.out 0 p577 q577
        cases e577
        have qi577 : (0 < l0_0.length) = True := eq_true (by omega)
        (try rw [show ((0 : Int)).toNat = 0 from rfl] at hx577_0)
        (try rw [show 0 * 2 = 0 from rfl] at hx577_0)
        (try rw [Addr.add_zero'] at hx577_0)
        (try rw [show ((0 : Int)).toNat = 0 from rfl] at hx577_1)
        (try rw [show 0 * 2 = 0 from rfl] at hx577_1)
        (try rw [Addr.add_zero'] at hx577_1)
        replace hx577_0 := (HB.out.cell (World.block_lt_of_cell? w _ hx577_0)).trans hx577_0
        replace hx577_1 := (HB.out.cell (World.block_lt_of_cell? w _ hx577_1)).trans hx577_1
        replace p577 := eq_true p577
        replace q577 := eq_true q577
        go_wp2
        go_roundg k1
        case measure => have := HK1.out; omega
        case rel => exact ⟨(x6_1), (0), (wrap64 (x10_1 + 86400)), (wrap64 (x32_1 + 1)), (by first | rfl | (simp; done) | (simp [*]; done)), (by first | rfl | (simp; done) | (simp [*]; done)), (by first | rfl | (simp; done) | (simp [*]; done)), (by first | rfl | (simp; done) | (simp [*]; done)), H', ⟨by have := HK1.out; omega⟩, ⟨kb BK573⟩, ⟨lb1 HB GE573⟩⟩
       ·rw [if_neg c14] at H
        have c14b0 : (((rd_T70 l0_0 0).f1) == t574) = false := beq_eq_false_iff_ne.mpr c14
        have c14b1 : (((rd_T70 l0_0 0).f1) != t574) = true := bne_iff_ne.mpr c14
        simp only [Option.some.injEq, Prod.mk.injEq] at H
        obtain ⟨rfl, rfl, rfl⟩ := H
        have hcz16_0 := bc BK573 0
        have hfz16_0 := blk_frozen BK573.out 0
        have p577 : 0 ≤ (0 : Int) := (by omega)
        have q577 : 0 < (l0_0.length : Int) := of_decide_eq_true (by first | (with_reducible assumption) | assumption)
        obtain ⟨ad577, e577, hx577_0, hx577_1⟩ := at_T70 HR0_0.out 0 p577 q577
        cases e577
        have qi577 : (0 < l0_0.length) = True := eq_true (by omega)
        (try rw [show ((0 : Int)).toNat = 0 from rfl] at hx577_0)
        (try rw [show 0 * 2 = 0 from rfl] at hx577_0)
        (try rw [Addr.add_zero'] at hx577_0)
        (try rw [show ((0 : Int)).toNat = 0 from rfl] at hx577_1)
        (try rw [show 0 * 2 = 0 from rfl] at hx577_1)
        (try rw [Addr.add_zero'] at hx577_1)
        replace hx577_0 := (HB.out.cell (World.block_lt_of_cell? w _ hx577_0)).trans hx577_0
        replace hx577_1 := (HB.out.cell (World.block_lt_of_cell? w _ hx577_1)).trans hx577_1
        replace p577 := eq_true p577
        replace q577 := eq_true q577
        have p578 : 0 ≤ (0 : Int) := (by omega)
        have q578 : 0 < (l0_0.length : Int) := of_decide_eq_true (by first | (with_reducible assumption) | assumption)
        obtain ⟨ad578, e578, hx578_0, hx578_1⟩ := at_T70 HR0_0.out 0 p578 q578
        obtain rfl : ad577 = ad578 := (by injection e578)
        have qi578 : (0 < l0_0.length) = True := eq_true (by omega)
        (try rw [show ((0 : Int)).toNat = 0 from rfl] at hx578_0)
        (try rw [show 0 * 2 = 0 from rfl] at hx578_0)
        (try rw [Addr.add_zero'] at hx578_0)
        (try rw [show ((0 : Int)).toNat = 0 from rfl] at hx578_1)
        (try rw [show 0 * 2 = 0 from rfl] at hx578_1)
        (try rw [Addr.add_zero'] at hx578_1)
        replace hx578_0 := (HB.out.cell (World.block_lt_of_cell? w _ hx578_0)).trans hx578_0
        replace hx578_1 := (HB.out.cell (World.block_lt_of_cell? w _ hx578_1)).trans hx578_1
        replace p578 := eq_true p578
        replace q578 := eq_true q578
        go_wp2
        go_ret3
        exact ⟨by first | rfl | (simp [errW_none, errW_some] <;> rfl) | (simp [*, errW_none, errW_some] <;> rfl), lb1 HB GE573⟩
      ·rw [if_neg c13] at H
       exact absurd H (by simp)
     ·rw [if_neg c12] at H
      have c12b0 : ((wrap64 (x9_1 + 1)) == (l0_0.length : Int)) = false := beq_eq_false_iff_ne.mpr c12
      have c12b1 : ((wrap64 (x9_1 + 1)) != (l0_0.length : Int)) = true := bne_iff_ne.mpr c12
      obtain ⟨ji17, hji17⟩ : ∃ j_ : Int, (wrap64 (x9_1 + 1)) = j_ := ⟨_, rfl⟩
      replace H : (if 0 ≤ (ji17) then (if (ji17) < (l0_0.length : Int) then (if ((rd_T70 l0_0 (ji17)).f1) = t574 then (tariff_Change.l0 k1 x6_1 t574 (l0_0.length : Int) ji17 x10_1 (l0_0.length : Int) (wrap64 (x32_1 + 1)) l0_0) else (some (wrap64 (x10_1 + ((rd_T70 l0_0 (ji17)).f0)), true, x6_1))) else (none)) else (none)) = some (r1, r2, r3) := by first | (rw [hji17] at H; exact H) | (simp only [hji17] at H ⊢; exact H)
      (try rw [hji17] at c12b0)
      (try rw [hji17] at c12b1)
      have hji17w : (IntKind.i64.wrap (x9_1 + 1)) = ji17 := (i64_w _).trans hji17
      by_cases c18 : 0 ≤ (ji17)
      ·rw [if_pos c18] at H
       have c18b0 : decide (0 ≤ (ji17)) = true := decide_eq_true c18
       clear c18
       by_cases c19 : (ji17) < (l0_0.length : Int)
       ·rw [if_pos c19] at H
        have c19b0 : decide ((ji17) < (l0_0.length : Int)) = true := decide_eq_true c19
        clear c19
        by_cases c20 : ((rd_T70 l0_0 (ji17)).f1) = t574
        ·rw [if_pos c20] at H
         have c20b0 : (((rd_T70 l0_0 (ji17)).f1) == t574) = true := beq_iff_eq.mpr c20
         have c20b1 : (((rd_T70 l0_0 (ji17)).f1) != t574) = false := bne_eq_false_iff_eq.mpr c20
         clear c20
         have H' := Aside0.mk H
         clear H
         have hcz21_0 := bc BK573 0
         have hfz21_0 := blk_frozen BK573.out 0
         have p579 : 0 ≤ ((ji17) : Int) := of_decide_eq_true (by first | (with_reducible assumption) | assumption)
         have q579 : (ji17) < (l0_0.length : Int) := of_decide_eq_true (by first | (with_reducible assumption) | assumption)
         obtain ⟨ad579, e579, hx579_0, hx579_1⟩ := at_T70 HR0_0.out (ji17) p579 q579
         cases e579
         replace hx579_0 := (HB.out.cell (World.block_lt_of_cell? w _ hx579_0)).trans hx579_0
         replace hx579_1 := (HB.out.cell (World.block_lt_of_cell? w _ hx579_1)).trans hx579_1
         replace p579 := eq_true p579
         replace q579 := eq_true q579
         go_wp2
         go_roundg k1
         case measure => have := HK1.out; omega
         case rel => exact ⟨(x6_1), (ji17), (x10_1), (wrap64 (x32_1 + 1)), (by first | rfl | (simp; done) | (simp [*]; done)), (by first | rfl | (simp; done) | (simp only [← hji17] <;> (first | rfl | simp)) | (simp [*]; done)), (by first | rfl | (simp; done) | (simp [*]; done)), (by first | rfl | (simp; done) | (simp [*]; done)), H', ⟨by have := HK1.out; omega⟩, ⟨kb BK573⟩, ⟨lb1 HB GE573⟩⟩
        ·rw [if_neg c20] at H
         have c20b0 : (((rd_T70 l0_0 (ji17)).f1) == t574) = false := beq_eq_false_iff_ne.mpr c20
         have c20b1 : (((rd_T70 l0_0 (ji17)).f1) != t574) = true := bne_iff_ne.mpr c20
         simp only [Option.some.injEq, Prod.mk.injEq] at H
         obtain ⟨rfl, rfl, rfl⟩ := H
         have hcz22_0 := bc BK573 0
         have hfz22_0 := blk_frozen BK573.out 0
         have p579 : 0 ≤ ((ji17) : Int) := of_decide_eq_true (by first | (with_reducible assumption) | assumption)
         have q579 : (ji17) < (l0_0.length : Int) := of_decide_eq_true (by first | (with_reducible assumption) | assumption)
         obtain ⟨ad579, e579, hx579_0, hx579_1⟩ := at_T70 HR0_0.out (ji17) p579 q579
         cases e579
         replace hx579_0 := (HB.out.cell (World.block_lt_of_cell? w _ hx579_0)).trans hx579_0
         replace hx579_1 := (HB.out.cell (World.block_lt_of_cell? w _ hx579_1)).trans hx579_1
         replace p579 := eq_true p579
         replace q579 := eq_true q579
         have p580 : 0 ≤ ((ji17) : Int) := of_decide_eq_true (by first | (with_reducible assumption) | assumption)
         have q580 : (ji17) < (l0_0.length : Int) := of_decide_eq_true (by first | (with_reducible assumption) | assumption)
         obtain ⟨ad580, e580, hx580_0, hx580_1⟩ := at_T70 HR0_0.out (ji17) p580 q580
         obtain rfl : ad579 = ad580 := (by injection e580)
         replace hx580_0 := (HB.out.cell (World.block_lt_of_cell? w _ hx580_0)).trans hx580_0
         replace hx580_1 := (HB.out.cell (World.block_lt_of_cell? w _ hx580_1)).trans hx580_1
         replace p580 := eq_true p580
         replace q580 := eq_true q580
         go_wp2
         go_ret3
         exact ⟨by first | rfl | (simp [errW_none, errW_some] <;> rfl) | (simp only [← hji17]; first | rfl | (simp [errW_none, errW_some] <;> rfl)) | (simp [*, errW_none, errW_some] <;> rfl), lb1 HB GE573⟩
       ·rw [if_neg c19] at H
        exact absurd H (by simp)
      ·rw [if_neg c18] at H
       exact absurd H (by simp)
    ·rw [if_neg c11] at H
     have c11b0 : decide (x32_1 < (l0_0.length : Int)) = false := decide_eq_false c11
     clear c11
     simp only [Option.some.injEq, Prod.mk.injEq] at H
     obtain ⟨rfl, rfl, rfl⟩ := H
     go_wp2
     go_ret3
     exact ⟨by first | rfl | (simp [errW_none, errW_some] <;> rfl) | (simp [*, errW_none, errW_some] <;> rfl), lb1 HB GE573⟩
 ·rw [if_neg c4] at H
  have c4b0 : (t575 == 0) = false := beq_eq_false_iff_ne.mpr c4
  have c4b1 : (t575 != 0) = true := bne_iff_ne.mpr c4
  simp only [Option.some.injEq, Prod.mk.injEq] at H
  obtain ⟨rfl, rfl, rfl⟩ := H
  go_enter Tryd.func93, Tryd.ntmps93
  go_wp2_with (first | ((with_reducible refine gate_dst (N := 2) rfl ?_); refine box_event ?hg (N := 2) ?hd (cs := #[.slice A0_0 l0_0.length c0_0]) (t := 24) ?hr ?_; (case hd => rfl); (case hg => rfl); (case hr => first | (go_simp; done) | (go_simp; rfl)); intro gb573 hg w23 hbox hb; have n0_ := ls0 HB hb; have n1_ := Aside0.mk (hbox); have n2_ := Aside0.mk ((by rw [hg]; exact (below_size (lb0 HB)) : w.heap.size ≤ gb573)); have n3_ := Aside0.mk ((by rw [hg]; exact (below_size (lb0 HB)) : w.heap.size ≤ gb573)); clear HB; have HB := n0_; have BK573 := n1_; have GW573 := n2_; have GE573 := n3_; clear n0_ n1_ n2_ n3_; clear hb hbox hg; have hcz24_0 := bc BK573 0; have hfz24_0 := blk_frozen BK573.out 0) | ((with_reducible refine gate_callee (f := 33) rfl ?_); refine goesL_ (some 14) rfl rfl Tryd.func33 (by kernel_rfl) rfl #[.agg #[.slice A0_0 l0_0.length c0_0], .int .i64 a1] rfl (by (try simp only [List.map_toArray, List.map_cons, List.map_nil]); first | done | rfl | (simp only [List.length_drop, List.length_take]; rfl)) ?_; (with_reducible refine (tariff_Rate.calls k _ _ l0_0 a1 t574 t575 _ ?side1 ?side2 A3.out).mono ?_); (case side1 => repeat (first | exact (Kd.C_below HR0_0.out HB.out) | (with_reducible refine Kd.C_alloc ?_ _) | (with_reducible refine Kd.C_drewN ?_ _) | (with_reducible refine Kd.C_drew ?_))); (case side2 => exact HC0_0.out); rintro e w25 ⟨rfl, hb⟩; refine ⟨_, rfl, ?_⟩; have n0_ := kl BK573 hb; have n1_ := ls1 HB GE573 hb; clear BK573; clear HB; have BK573 := n0_; have HB := n1_; clear n0_ n1_; (try clear hb); (try clear hb2); (try clear hk); (try clear hi)))
  go_ret3
  exact ⟨by first | rfl | (simp [errW_none, errW_some] <;> rfl) | (simp [*, errW_none, errW_some] <;> rfl), lb1 HB GE573⟩

end Go.Proofs.YtldpacphackdjaaDoor.Print
