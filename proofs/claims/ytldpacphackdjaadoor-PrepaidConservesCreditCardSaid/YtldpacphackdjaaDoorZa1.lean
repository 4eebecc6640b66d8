/- Parts of the proofs of layer 28's laws, joined in one file by a program of the session; each part begins with its own sentence. -/
import Derived.Test.YtldpacphackdjaaDoorZaK0
import Derived.WalkSpells
import Derived.Lib.SliceRun
import Derived.Lib.AppendZerosOnto
import Derived.Lib.Overlaps
import Derived.Laws.Externs
import Derived.Laws.IdiomCopy
import Derived.Laws.CopyRow
import Derived.Deep.RegionLaw
/- That the search of prepaid.hold finds the place of a call's hold, in every list of holds whose calls' numbers rise; and that slices.Clone makes a row of the call's own with the same holds. -/
namespace Go.Proofs.YtldpacphackdjaaDoor.Print
open Go.RowKit Go.Proofs.YtldpacphackdjaaDoorW.PrintWords Go.Proofs.YtldpacphackdjaaDoorW.PrintLast Go.Proofs.YtldpacphackdjaaDoorW.PrintMore
set_option linter.unusedVariables false
set_option linter.unusedSimpArgs false

/-- What cmp.Compare answers. -/
def cmpI (a b : Int) : Int := if a < b then -1 else if a > b then 1 else 0
theorem cmpI_neg (a b : Int) : cmpI a b < 0 ↔ a < b := by
  unfold cmpI
  split
  · simp [*]
  · split <;> simp [*]
theorem cmpI_zero (a b : Int) : cmpI a b = 0 ↔ a = b := by
  unfold cmpI
  split
  · constructor
    · intro h; omega
    · intro h; omega
  · split
    · constructor
      · intro h; omega
      · intro h; omega
    · constructor
      · intro h; omega
      · intro h; rfl
set_option maxHeartbeats 1000000 in
set_option maxRecDepth 100000 in
theorem hold1_calls (a b c s : Int) {q : Int} (h : cmpI a s = q) (w : World) :
    Calls Tryd.prog 66 #[.agg #[.int .i64 a, .int .i64 b, .int .i64 c], .int .i64 s] w fun e w' => e = .returned (.int .i64 q) ∧ Below w.heap.size w w' := by
  have hu := Tryd.underlying54
  subst h
  by_cases h1 : a < s
  · have e : cmpI a s = -1 := by unfold cmpI; rw [if_pos h1]
    rw [e]
    clear e
    go_enter Tryd.func66, Tryd.ntmps66
    go_wp2
    go_ret
    exact ⟨rfl, by repeat (first | exact Below.refl _ _ | apply below_alloc | apply below_drew | apply pw_below_drewN)⟩
  · by_cases h2 : a > s
    · have e : cmpI a s = 1 := by unfold cmpI; rw [if_neg h1, if_pos h2]
      rw [e]
      clear e
      have h2' : s < a := h2
      have h1' : s ≤ a := by omega
      clear h1 h2
      go_enter Tryd.func66, Tryd.ntmps66
      go_wp2
      go_ret
      exact ⟨rfl, by repeat (first | exact Below.refl _ _ | apply below_alloc | apply below_drew | apply pw_below_drewN)⟩
    · have e : cmpI a s = 0 := by unfold cmpI; rw [if_neg h1, if_neg h2]
      rw [e]
      clear e
      obtain rfl : a = s := by omega
      clear h1 h2
      go_enter Tryd.func66, Tryd.ntmps66
      go_wp2
      go_ret
      exact ⟨rfl, by repeat (first | exact Below.refl _ _ | apply below_alloc | apply below_drew | apply pw_below_drewN)⟩

set_option maxHeartbeats 4000000 in
set_option maxRecDepth 100000 in
theorem bsearch_hold (A0 : Option Addr) (c0 : Nat) (l : List S54) (s : Int) (i : Nat) (w : World) (hr : Kd.C k54 w A0 l.length l) (hi : i ≤ l.length) (hlen : l.length ≤ 1024)
    (hb : ∀ j : Nat, j < l.length → ((rd_T54 l j).f0 < s ↔ j < i)) :
    Calls Tryd.prog 65 #[.slice A0 l.length c0, .int .i64 s, .func (.func 66) #[] #[]] w fun e w' => e = .returned (.tuple #[.int .i64 (i : Int), .bool (decide (i < l.length) && decide ((rd_T54 l i).f0 = s))]) ∧ Below w.heap.size w w' := by
  have hu := Tryd.underlying54
  have HR := Aside0.mk hr
  have HB := Aside0.mk hb
  have B0 := Aside0.mk (Below.refl w.heap.size w)
  clear hr hb
  go_enter Tryd.func65, Tryd.ntmps65
  go_wp2
  go_loopg [9, 10] l.length (fun kx s9 s10 wr => ∃ lo hi : Nat, s9 = .int .i64 lo ∧ s10 = .int .i64 hi ∧ lo ≤ hi ∧ hi ≤ l.length ∧ hi - lo ≤ kx ∧ lo ≤ i ∧ i ≤ hi ∧ Aside0 (Below w.heap.size w wr))
  case atStart => exact ⟨0, l.length, rfl, rfl, Nat.zero_le _, Nat.le_refl _, by omega, Nat.zero_le _, hi, B0⟩
  case round =>
    clear B0
    obtain ⟨lo, hi', rfl, rfl, hlh, hin, hg, h4, h5, B1⟩ := hrel
    by_cases hlt : lo < hi'
    · have hql : (lo + hi') / 2 < l.length := by omega
      have g3 := HB.out ((lo + hi') / 2) hql
      obtain ⟨ad, e1, c1, c2, c3⟩ := at_T54 HR.out (((lo + hi') / 2 : Nat) : Int) (by omega) (by omega)
      cases e1
      replace c1 := (B1.out.cell (World.block_lt_of_cell? w _ c1)).trans c1
      replace c2 := (B1.out.cell (World.block_lt_of_cell? w _ c2)).trans c2
      replace c3 := (B1.out.cell (World.block_lt_of_cell? w _ c3)).trans c3
      rw [Int.toNat_natCast] at c1 c2 c3
      generalize rd_T54 l (((lo + hi') / 2 : Nat) : Int) = x at c1 c2 c3 g3
      obtain ⟨x0, x1, x2⟩ := x
      simp only at c1 c2 c3 g3
      have G3 := Aside0.mk g3
      clear g3
      obtain ⟨q, hq⟩ : ∃ q, cmpI x0 s = q := ⟨_, rfl⟩
      have HC := Aside0.mk (fun W => hold1_calls x0 x1 x2 s hq W)
      have hq0 := cmpI_neg x0 s
      rw [hq] at hq0
      have HQ := Aside0.mk hq0
      clear hq hq0
      by_cases hx : q < 0
      · go_wp2_with (go_at_call 66; refine (HC.out _).mono ?_; rintro e w' ⟨rfl, hb⟩)
        have B2 := Aside0.mk (below_step B1.out hb)
        clear hb
        go_roundg (hi' - ((lo + hi') / 2 + 1))
        case measure => omega
        case rel => exact ⟨(lo + hi') / 2 + 1, hi', by rw [show ((lo : Int) + (hi' : Int)) / 2 + 1 = (((lo + hi') / 2 + 1 : Nat) : Int) by omega], rfl, by omega, hin, Nat.le_refl _, by have := G3.out.1 (HQ.out.1 hx); omega, h5, B2⟩
      · have hx' : 0 ≤ q := by omega
        have NX := Aside0.mk hx
        clear hx
        go_wp2_with (go_at_call 66; refine (HC.out _).mono ?_; rintro e w' ⟨rfl, hb⟩)
        have B2 := Aside0.mk (below_step B1.out hb)
        clear hb
        go_roundg ((lo + hi') / 2 - lo)
        case measure => omega
        case rel => exact ⟨lo, (lo + hi') / 2, rfl, by rw [show ((lo : Int) + (hi' : Int)) / 2 = (((lo + hi') / 2 : Nat) : Int) by omega], by omega, by omega, Nat.le_refl _, h4, Nat.le_of_not_lt (fun h => absurd (HQ.out.2 (G3.out.2 h)) (by have := NX.out; omega)), B2⟩
    · obtain rfl : hi' = lo := by omega
      obtain rfl : hi' = i := by omega
      by_cases hn : hi' < l.length
      · obtain ⟨ad, e1, c1, c2, c3⟩ := at_T54 HR.out (hi' : Int) (by omega) (by omega)
        cases e1
        replace c1 := (B1.out.cell (World.block_lt_of_cell? w _ c1)).trans c1
        replace c2 := (B1.out.cell (World.block_lt_of_cell? w _ c2)).trans c2
        replace c3 := (B1.out.cell (World.block_lt_of_cell? w _ c3)).trans c3
        rw [Int.toNat_natCast] at c1 c2 c3
        obtain ⟨x, hx⟩ : ∃ x, rd_T54 l (hi' : Int) = x := ⟨_, rfl⟩
        rw [hx] at c1 c2 c3
        obtain ⟨x0, x1, x2⟩ := x
        simp only at c1 c2 c3
        have X := Aside0.mk hx
        clear hx
        obtain ⟨q, hq⟩ : ∃ q, cmpI x0 s = q := ⟨_, rfl⟩
        have HC := Aside0.mk (fun W => hold1_calls x0 x1 x2 s hq W)
        have hq0 := cmpI_zero x0 s
        rw [hq] at hq0
        have HQ := Aside0.mk hq0
        clear hq hq0
        go_wp2_with (go_at_call 66; refine (HC.out _).mono ?_; rintro e w' ⟨rfl, hb⟩)
        have B2 := below_step B1.out hb
        go_ret2
        refine ⟨?_, B2⟩
        rw [X.out]
        have hiff := HQ.out
        by_cases h : x0 = s
        · simp [hn, h, hiff.2 h]
        · have : ¬ q = 0 := fun e => h (hiff.1 e)
          simp [hn, h, this]
      · go_wp2
        go_ret2
        exact ⟨by simp [hn], B1.out⟩

theorem slice_event {P : Program} {ops : Array Oper} {rest : List Oper} {o : Oper} {a : Act} {Q : Exit → Act → World → Prop} {W : World} (hgd : o.guard = none) {N : Tmp} (_hd : o.dst = some N) {cs : Array Value} {t : TypeId} {n c : Nat}
    (hrun : (execOp a.eval o).run P W = .ok (.value (.slice (some ⟨W.heap.size, 0, none⟩) n c)) (W.alloc (.cells cs t (0, 0))))
    (h : ∀ g, g = W.heap.size → ∀ w1, w1.heap[g]? = some (.cells cs t (0, 0)) → Below W.heap.size W w1 → wpList P ops Q rest (a.put o.dst (.slice (some ⟨g, 0, none⟩) n c)) w1) : wpList P ops Q (o :: rest) a W :=
  Kd.event_run hgd hrun (h _ rfl _ (blk_new W _) (below_alloc (Below.refl _ _) _))
theorem ne_of_old {w : World} {g g' : Nat} {o : Obj} (h : w.heap[g]? = some o) (hg : g' = w.heap.size) : g ≠ g' := by have := blk_lt h; omega
theorem row_made {w : World} {base g : Nat} (hg : base ≤ g) (hb : w.heap[g]? = some (.cells #[] 54 (0, 0))) : Kd.R k54 54 w base (fun _ => True) (.slice (some ⟨g, 0, none⟩) 0 0) [] :=
  ⟨fun _ _ => trivial, [], ⟨by simp, .inr ⟨g, 0, #[], rfl, hg, hb, Nat.le_refl _, Nat.zero_le _, rfl, rfl⟩⟩, Reps.none _ _⟩
set_option maxHeartbeats 4000000 in
set_option maxRecDepth 100000 in
theorem clone_hold (A0 : Option Addr) (c0 : Nat) (l : List S54) (w : World) (hr : Kd.C k54 w A0 l.length l) (hc : l.length ≤ c0) (hlen : l.length ≤ 1024) :
    Calls Tryd.prog 64 #[.slice A0 l.length c0] w fun e w' => ∃ v, e = .returned v ∧ Kd.R k54 54 w' w.heap.size (fun _ => True) v l ∧ Below w.heap.size w w' := by
  have hus := Tryd.underlying29
  have hu := Tryd.underlying54
  have heq := fun (w : World) (a : Option Addr) (n c n' c' : Nat) => Lib.run_eql_slice_nil (P := Tryd.prog) w 29 54 a n c n' c' hus
  cases A0 with
  | none =>
    have hn : l = [] := by
      rcases Nat.eq_zero_or_pos l.length with h | h
      · exact List.length_eq_zero_iff.1 h
      · obtain ⟨ad, h, _⟩ := hr.2.2 h
        cases h
    subst hn
    go_enter Tryd.func64, Tryd.ntmps64
    go_wp2
    go_ret
    exact ⟨_, rfl, Kd.R_nil _ _ _ _ _, Below.refl _ _⟩
  | some ad =>
    obtain ⟨ab, ao, asp⟩ := ad
    have HR := Aside0.mk hr
    have LB := Aside0.mk (show (0 + l.length) * 24 ≤ 140737488355328 by omega)
    clear hr
    go_enter Tryd.func64, Tryd.ntmps64
    go_wp2_with (first
      | ((with_reducible refine gate_dst (N := 5) rfl ?_); refine slice_event (n := 0) (c := 0) ?hg (N := 5) ?hd (cs := #[]) (t := 54) ?hr ?_; (case hd => rfl); (case hg => rfl); (case hr => first | (go_simp; done) | (go_simp; rfl)); intro g hg w1 hbox hb; have n0_ := Aside0.mk (below_step (Below.refl w.heap.size w) hb); have GE := Aside0.mk (Nat.le_of_eq hg.symm : w.heap.size ≤ g); have n1_ := Aside0.mk (Kd.C_below HR.out hb); have n2_ := Aside0.mk (row_made GE.out hbox); clear hb hbox hg)
      | ((with_reducible refine gate_builtin (b := .append) (xs := #[.tmp 5, .tmp 6]) rfl ?_); at_builtin; refine Kd.R_append_rows k54 (w0 := w) w.heap.size rfl (.tmp 5) (.tmp 6) 29 54 _ 24 rfl Tryd.underlying29 info54 rfl (by decide) (by omega) (.slice (some ⟨g, 0, none⟩) 0 0) [] l (some ⟨ab, ao, asp⟩) l.length c0 (fun _ => True) (fun _ => False) (by rfl) (by rfl) n2_.out n1_.out (fun x cs h => by have e := k54_open h; subst e; exact k54_mkM _ _ _ x) (fun _ h => h.elim) (fun _ _ => trivial) n0_.out (below_size n0_.out) (by simpa using LB.out) ?_; intro v1 w2 ho hb hgr hat; have END := Aside0.mk (And.intro ho hb); clear ho hb hgr hat))
    go_ret
    exact ⟨v1, rfl, END.out.1, END.out.2⟩
end Go.Proofs.YtldpacphackdjaaDoor.Print
/- That slices.Insert of one element answers the list with the element at its place, in a row of the call's own, whether there is room or not. -/
namespace Go.Proofs.YtldpacphackdjaaDoor.Print
open Go.RowKit Go.Proofs.YtldpacphackdjaaDoorW.PrintWords Go.Proofs.YtldpacphackdjaaDoorW.PrintLast Go.Proofs.YtldpacphackdjaaDoorW.PrintMore
set_option linter.unusedVariables false
set_option linter.unusedSimpArgs false

theorem pi_wpList_copy_is {P : Program} (w : World) {ops : Array Oper} {rest : List Oper} {o : Oper} {a : Act} {Q : Exit → Act → World → Prop} (hgd : o.guard = none) (d s : Operand) (t t' : TypeId)
    (ho : o.op = .call { callee := .builtin .copy, args := #[d, s], argTypes := #[t, t'] }) (v u : Value) (hd : a.eval d = v) (hs : a.eval s = u) {v' : Value} {w' : World}
    (hr : (Builtin.copy_ #[t, t'] o.type #[v, u]).run P w = .ok v' w') (h : wpList P ops Q rest (a.put o.dst v') w') : wpList P ops Q (o :: rest) a w :=
  wpList_plain hgd fun _ hK => by
    unfold Oper.wp execOp
    simp only [ho, resolve, invoke, builtin, Sem.run_bind, Sem.run_pure, Result.andThen_ok, List.map_toArray, List.map_cons, List.map_nil, hd, hs, hr]
    exact hK _ _ h
theorem pi_step_copy_is {P : Program} {ops : Array Oper} {o : Oper} {a : Act} {w : World} {K : Act → World → Prop} {Q : Exit → Act → World → Prop} {E : Prop}
    (hg : o.guard = none) (d x : Operand) (dT sT : TypeId) (hop : o.op = Op.call { callee := Callee.builtin Builtin.copy, args := #[d, x], argTypes := #[dT, sT] })
    (v u : Value) (hd : a.eval d = v) (hx : a.eval x = u) {v' : Value} {w' : World} (hr : (Builtin.copy_ #[dT, sT] o.type #[v, u]).run P w = .ok v' w') (hK : K (a.put o.dst v') w') :
    if Region.wanted o (yielded ops a.tmps) = true then Oper.wp P o a w K Q else E := by
  have hw : Region.wanted o (yielded ops a.tmps) = true := by simp [Region.wanted, hg]
  rw [if_pos hw]
  unfold Oper.wp
  simp [execOp, hop, resolve, invoke, builtin, hd, hx, hr, Result.andThen]
  exact hK
theorem pi_wpList_append_is {P : Program} (w : World) {ops : Array Oper} {rest : List Oper} {o : Oper} {a : Act} {Q : Exit → Act → World → Prop} (hgd : o.guard = none) (d s : Operand) (t t' : TypeId)
    (ho : o.op = .call { callee := .builtin .append, args := #[d, s], argTypes := #[t, t'] }) (v u : Value) (hd : a.eval d = v) (hs : a.eval s = u) {v' : Value} {w' : World}
    (hr : (Builtin.append_ #[t, t'] o.type #[v, u]).run P w = .ok v' w') (h : wpList P ops Q rest (a.put o.dst v') w') : wpList P ops Q (o :: rest) a w :=
  wpList_plain hgd fun _ hK => by
    unfold Oper.wp execOp
    simp only [ho, resolve, invoke, builtin, Sem.run_bind, Sem.run_pure, Result.andThen_ok, List.map_toArray, List.map_cons, List.map_nil, hd, hs, hr]
    exact hK _ _ h
/-- A row's cells over another part of a row that is known whole. -/
def pi_over (cur : Array Value) (o : Nat) (cs : List Value) : Array Value := (cur.toList.take o ++ cs ++ cur.toList.drop (o + cs.length)).toArray
theorem pi_over_size (cur : Array Value) (o : Nat) (cs : List Value) (h : o + cs.length ≤ cur.size) : (pi_over cur o cs).size = cur.size := by
  simp [pi_over]
  omega
theorem pi_over_list (cur : Array Value) (o : Nat) (cs : List Value) : (pi_over cur o cs).toList = cur.toList.take o ++ cs ++ cur.toList.drop (o + cs.length) := by simp [pi_over]
theorem pi_run_copy_rows {P : Program} (w : World) (dT sT ty elem : TypeId) (g o dLen dCap : Nat) (a : Addr) (sLen sCap : Nat) (cur : Array Value) (t : TypeId) (sz k : Nat) (cs : List Value)
    (hu : P.underlying dT = some (.slice elem)) (hs : (P.info? elem).map (·.size) = some sz)
    (hg : w.heap[g]? = some (.cells cur t (0, 0))) (hk : Nat.min sLen dLen = k) (hn : cs.length = k * sz)
    (hsrc : ∀ j v, cs[j]? = some v → w.cell? (a.add j) = some v) (hfit : o + cs.length ≤ cur.size) (h1 : ∀ v ∈ cs, v.oneCell' = true) :
    (Builtin.copy_ #[dT, sT] ty #[.slice (some ⟨g, o, none⟩) dLen dCap, .slice (some a) sLen sCap]).run P w = .ok (goInt k) (w.setRow g (pi_over cur o cs)) := by
  have hl := run_loadCells_list (P := P) w a cs hsrc
  have hst := run_storeCells_at P g o t cs 0 cur w hg (by simpa using hfit) h1
  cases hq : P.info? elem with
  | none => simp [hq] at hs
  | some i =>
    have hi : i.size = sz := by simpa [hq] using hs
    simp [Builtin.copy_, run_underlying hu, Builtin.lenOf, Builtin.firstCells, sizeOf, typeInfo, hq, hi, hk, ← hn, hl, hst, pi_over]
theorem pi_setRow_grown (w : World) (g : Nat) (cs : Array Value) : w.grownBy (w.setRow g cs) (some g) :=
  ⟨rfl, rfl, rfl, by simp [World.setRow], fun k hk hne => setRow_other w g k cs (by intro h; exact hne (by rw [h]))⟩
theorem pi_grown_trans {w w1 w2 : World} {r : Option Nat} (h : w.grownBy w1 r) (k : w1.grownBy w2 r) : w.grownBy w2 r :=
  ⟨k.os.trans h.os, k.tape.trans h.tape, k.output.trans h.output, Nat.le_trans h.size k.size, fun i hi hne => (k.block i (Nat.lt_of_lt_of_le hi h.size) hne).trans (h.block i hi hne)⟩
theorem pi_drew_grown (w : World) (r : Option Nat) : w.grownBy w.drew r := ⟨rfl, rfl, rfl, Nat.le_refl _, fun _ _ _ => rfl⟩
theorem pi_grown_any {w w1 : World} (h : w.grownBy w1 none) (r : Option Nat) : w.grownBy w1 r := ⟨h.os, h.tape, h.output, h.size, fun i hi _ => h.block i hi (by simp)⟩

set_option maxHeartbeats 4000000 in
set_option maxRecDepth 100000 in
theorem pi_insert_room (b n c i vb vc : Nat) (cs : List Value) (cur : Array Value) (w : World) (hi : i < n) (hroom : n + 1 ≤ c) (hc63 : c ≤ maxLen) (hvb : vb ≠ b) (hsz : cur.size = c * 3)
    (hb : w.heap[b]? = some (.cells cur 54 (0, 0))) (hcl : cs.length = 3) (h1v : ∀ v ∈ cs, v.oneCell' = true) (hv : w.heap[vb]? = some (.cells cs.toArray 54 (0, 0))) (h1 : ∀ v ∈ (cur.toList.take (n * 3)).drop (i * 3), v.oneCell' = true) :
    Calls Tryd.prog 40 #[.slice (some ⟨b, 0, none⟩) n c, .int .i64 i, .slice (some ⟨vb, 0, none⟩) 1 vc] w fun e w' => e = .returned (.slice (some ⟨b, 0, none⟩) (n + 1) c) ∧
      w'.heap[b]? = some (.cells (pi_over (pi_over cur ((i + 1) * 3) ((cur.toList.take (n * 3)).drop (i * 3))) (i * 3) cs) 54 (0, 0)) ∧ w.grownBy w' (some b) := by
  have hus := Tryd.underlying29
  have hue := Tryd.underlying54
  unfold maxLen at hc63
  have hinfo : (Tryd.prog.info? 54).map (·.size) = some 3 := by kernel_rfl
  have hdl : ((cur.toList.take (n * 3)).drop (i * 3)).length = (n - i) * 3 := by simp [hsz]; omega
  obtain ⟨mid, hmid⟩ : ∃ mid, mid = (cur.toList.take (n * 3)).drop (i * 3) := ⟨_, rfl⟩
  rw [← hmid] at hdl h1 ⊢
  obtain ⟨W1, hW1⟩ : ∃ W1, W1 = w.drew.setRow b (pi_over cur ((i + 1) * 3) mid) := ⟨_, rfl⟩
  have hb1 : W1.heap[b]? = some (.cells (pi_over cur ((i + 1) * 3) mid) 54 (0, 0)) := by rw [hW1]; exact setRow_heap w.drew b _ _ _ _ hb
  have hv1 : W1.heap[vb]? = some (.cells cs.toArray 54 (0, 0)) := by rw [hW1]; exact (setRow_other w.drew b vb _ hvb).trans hv
  have hov : ∀ lb cb o, (callFunc 68 #[.slice (some ⟨vb, 0, none⟩) 1 vc, .slice (some ⟨b, o, none⟩) lb cb]).run Tryd.prog w = .ok (.value (.bool false)) w := fun lb cb o => by
    rw [run_callFunc_extern Tryd.func68 (by kernel_rfl) (by kernel_rfl) (by kernel_rfl) (e := Extern.SlicesOverlaps.overlaps #[29, 29] #[4]) (by kernel_rfl),
      Lib.run_overlaps_apart w 29 4 54 Tryd.underlying29 3 (fun w => by kernel_rfl) ⟨vb, 0, none⟩ ⟨b, o, none⟩ 1 vc lb cb hvb 54 54 cs.toArray.size cur.size (by simp [World.shape?, hv]) (by simp [World.shape?, hb]) (by omega) (by simp [World.frozen?, hv]) (by simp [World.frozen?, hv])]
    rfl
  have hcp1 : ∀ o dl so sl dc sc ty, o = (i + 1) * 3 → so = i * 3 → dl = n - i → sl = n + 1 - i → (Builtin.copy_ #[29, 29] ty #[.slice (some ⟨b, o, none⟩) dl dc, .slice (some ⟨b, so, none⟩) sl sc]).run Tryd.prog w.drew = .ok (goInt (n - i : Nat)) W1 := by
    rintro o dl so sl dc sc ty rfl rfl rfl rfl
    rw [hW1]
    refine pi_run_copy_rows w.drew 29 29 ty 54 b _ (n - i) dc ⟨b, i * 3, none⟩ (n + 1 - i) sc cur 54 3 (n - i) mid hus hinfo hb (by simp only [Nat.min_def]; split <;> omega) hdl ?_ (by rw [hdl]; omega) h1
    intro j v hj
    rw [Addr.add_lit]
    refine (cell_of_row w.drew b _ cur 54 (0, 0) hb).trans ?_
    rw [hmid, List.getElem?_drop, List.getElem?_take] at hj
    split at hj
    · simpa using hj
    · cases hj
  have hcp2 : ∀ o dl dc ty, o = i * 3 → dl = n + 1 - i → (Builtin.copy_ #[29, 29] ty #[.slice (some ⟨b, o, none⟩) dl dc, .slice (some ⟨vb, 0, none⟩) 1 vc]).run Tryd.prog W1 = .ok (goInt (1 : Nat)) (W1.setRow b (pi_over (pi_over cur ((i + 1) * 3) mid) (i * 3) cs)) := by
    rintro o dl dc ty rfl rfl
    refine pi_run_copy_rows W1 29 29 ty 54 b _ (n + 1 - i) dc ⟨vb, 0, none⟩ 1 vc _ 54 3 1 cs hus hinfo hb1 (by simp only [Nat.min_def]; split <;> omega) (by omega) ?_ ?_ h1v
    · intro j v hj
      rw [Addr.add_lit]
      refine (cell_of_row W1 vb _ cs.toArray 54 (0, 0) hv1).trans ?_
      simpa using hj
    · rw [pi_over_size _ _ _ (by rw [hdl]; omega)]; omega
  have hend : W1.setRow b (pi_over (pi_over cur ((i + 1) * 3) mid) (i * 3) cs) = W1.setRow b (pi_over (pi_over cur ((i + 1) * 3) mid) (i * 3) cs) → ((W1.setRow b (pi_over (pi_over cur ((i + 1) * 3) mid) (i * 3) cs)).heap[b]? = some (.cells (pi_over (pi_over cur ((i + 1) * 3) mid) (i * 3) cs) 54 (0, 0)) ∧ w.grownBy (W1.setRow b (pi_over (pi_over cur ((i + 1) * 3) mid) (i * 3) cs)) (some b)) := fun _ =>
    ⟨setRow_heap W1 b _ _ _ _ hb1, pi_grown_trans (by rw [hW1]; exact pi_grown_trans (pi_drew_grown w _) (pi_setRow_grown w.drew b _)) (pi_setRow_grown W1 b _)⟩
  obtain ⟨W2, hW2⟩ : ∃ W2, W2 = W1.setRow b (pi_over (pi_over cur ((i + 1) * 3) mid) (i * 3) cs) := ⟨_, rfl⟩
  rw [← hW2] at hend hcp2
  have END := Aside0.mk (hend rfl)
  have CP1 := Aside0.mk hcp1
  have CP2 := Aside0.mk hcp2
  have hz2 : ¬ ((i : Int) = (n : Int)) := by omega
  have hb2 : ¬ (c = i + 1) := by omega
  have hb4 : ¬ (c = i) := by omega
  have hb5 : (i : Int) + 1 ≤ (n : Int) + 1 := by omega
  have hb6 : (i : Int) ≤ (n : Int) + 1 := by omega
  have htn : ((i : Int) + 1).toNat = i + 1 := by omega
  have hw1 : IntKind.i64.wrap ((i : Int) + 1) = (i : Int) + 1 := by rw [IntKind.wrap_i64]; omega
  have hb7 : (0 : Int) ≤ (i : Int) + 1 := by omega
  clear hcp1 hcp2 hend hb1 hv1 hb hv hdl h1 h1v hcl hsz hmid hW1 hW2
  go_enter Tryd.func40, Tryd.ntmps40
  go_wp2_with (simp only [hov])
  go_region_law (refine pi_step_copy_is rfl (.tmp 73) (.tmp 76) 29 29 rfl (.slice (some ⟨b, (i + 1) * 3, none⟩) (n - i) (c - (i + 1))) (.slice (some ⟨b, i * 3, none⟩) (n + 1 - i) (c - i)) (by simp [Act.eval, Act.put]) (by simp [Act.eval, Act.put]) (CP1.out _ _ _ _ _ _ _ rfl rfl rfl rfl) ?_)
  go_wp2_with ((with_reducible refine gate_builtin (b := .copy) (xs := #[.tmp 80, .tmp 81]) rfl ?_); refine pi_wpList_copy_is _ rfl (.tmp 80) (.tmp 81) 29 29 rfl (.slice (some ⟨b, i * 3, none⟩) (n + 1 - i) (c - i)) (.slice (some ⟨vb, 0, none⟩) 1 vc) (by rfl) (by rfl) (CP2.out _ _ _ _ rfl rfl) ?_)
  go_ret
  exact ⟨rfl, END.out⟩
theorem pi_take_room (L cs : List Value) (n i : Nat) (hi : i < n) (hn : (n + 1) * 3 ≤ L.length) (hcl : cs.length = 3) :
    (pi_over (pi_over L.toArray ((i + 1) * 3) ((L.take (n * 3)).drop (i * 3))) (i * 3) cs).toList.take ((n + 1) * 3) = (L.take (n * 3)).take (i * 3) ++ (cs ++ (L.take (n * 3)).drop (i * 3)) := by
  obtain ⟨mid, hmid⟩ : ∃ mid, mid = (L.take (n * 3)).drop (i * 3) := ⟨_, rfl⟩
  have hml : mid.length = (n - i) * 3 := by rw [hmid]; simp; omega
  rw [← hmid, pi_over_list, pi_over_list]
  have e0 : (L.toArray).toList = L := rfl
  rw [e0]
  have e1 : (L.take ((i + 1) * 3) ++ mid ++ L.drop ((i + 1) * 3 + mid.length)).take (i * 3) = (L.take (n * 3)).take (i * 3) := by
    rw [List.append_assoc, List.take_append_of_le_length (by simp; omega), List.take_take, List.take_take]
    congr 1
    omega
  have e2 : (L.take ((i + 1) * 3) ++ mid ++ L.drop ((i + 1) * 3 + mid.length)).drop (i * 3 + cs.length) = mid ++ L.drop ((i + 1) * 3 + mid.length) := by
    rw [List.append_assoc]
    exact List.drop_left' (by simp; omega)
  rw [e1, e2]
  have e3 : (L.take (n * 3)).take (i * 3) ++ cs ++ (mid ++ L.drop ((i + 1) * 3 + mid.length)) = ((L.take (n * 3)).take (i * 3) ++ (cs ++ mid)) ++ L.drop ((i + 1) * 3 + mid.length) := by simp only [List.append_assoc]
  rw [e3]
  exact List.take_left' (by simp [hml, hcl]; omega)
theorem pi_take_grow (xs Z cs : List Value) (n i : Nat) (hi : i < n) (hxl : xs.length = n * 3) (hz : (n + 1 - i) * 3 ≤ Z.length) (hcl : cs.length = 3) :
    (pi_over (pi_over (xs.take (i * 3) ++ Z).toArray (i * 3) cs) ((i + 1) * 3) (xs.drop (i * 3))).toList.take ((n + 1) * 3) = xs.take (i * 3) ++ (cs ++ xs.drop (i * 3)) := by
  obtain ⟨mid, hmid⟩ : ∃ mid, mid = xs.drop (i * 3) := ⟨_, rfl⟩
  have hml : mid.length = (n - i) * 3 := by rw [hmid]; simp [hxl]; omega
  obtain ⟨lo, hlo⟩ : ∃ lo, lo = xs.take (i * 3) := ⟨_, rfl⟩
  have hll : lo.length = i * 3 := by rw [hlo]; simp [hxl]; omega
  rw [← hmid, ← hlo, pi_over_list, pi_over_list]
  have e0 : ((lo ++ Z).toArray).toList = lo ++ Z := rfl
  rw [e0]
  have e1 : (lo ++ Z).take (i * 3) = lo := List.take_left' hll
  rw [e1]
  have e2 : (lo ++ cs ++ (lo ++ Z).drop (i * 3 + cs.length)).take ((i + 1) * 3) = lo ++ cs := List.take_left' (by simp [hll, hcl]; omega)
  rw [e2]
  have e3 : lo ++ cs ++ mid ++ (lo ++ cs ++ (lo ++ Z).drop (i * 3 + cs.length)).drop ((i + 1) * 3 + mid.length) = (lo ++ (cs ++ mid)) ++ (lo ++ cs ++ (lo ++ Z).drop (i * 3 + cs.length)).drop ((i + 1) * 3 + mid.length) := by simp only [List.append_assoc]
  rw [e3]
  exact List.take_left' (by simp [hml, hcl, hll]; omega)
set_option maxHeartbeats 4000000 in
set_option maxRecDepth 100000 in
theorem pi_insert_grow (b n c i vb vc : Nat) (xs cs : List Value) (cur : Array Value) (w : World) (hi : i < n) (hnc : n ≤ c) (hroom : c < n + 1) (hbig : (n + 1) * 24 ≤ 140737488355328) (hxs : xs = cur.toList.take (n * 3)) (hsz : cur.size = c * 3)
    (hb : w.heap[b]? = some (.cells cur 54 (0, 0))) (hcl : cs.length = 3) (h1v : ∀ v ∈ cs, v.oneCell' = true) (hv : w.heap[vb]? = some (.cells cs.toArray 54 (0, 0))) (h1 : ∀ v ∈ xs.drop (i * 3), v.oneCell' = true) :
    Calls Tryd.prog 40 #[.slice (some ⟨b, 0, none⟩) n c, .int .i64 i, .slice (some ⟨vb, 0, none⟩) 1 vc] w fun e w' => ∃ (G : Nat) (Z : List Value), n + 1 ≤ G ∧ G ≤ maxLen ∧ Z.length = (G - i) * 3 ∧ e = .returned (.slice (some ⟨w.heap.size, 0, none⟩) (n + 1) G) ∧
      w'.heap[w.heap.size]? = some (.cells (pi_over (pi_over (xs.take (i * 3) ++ Z).toArray (i * 3) cs) ((i + 1) * 3) (xs.drop (i * 3))) 54 (0, 0)) ∧ w.grownBy w' none := by
  have hus := Tryd.underlying29
  have hue := Tryd.underlying54
  obtain ⟨i0, hi0, hz0, hzs, hzb⟩ := info_parts info54
  have hinfo : (Tryd.prog.info? 54).map (·.size) = some 3 := by rw [hi0]; simp [hzs]
  have hxl : xs.length = n * 3 := by rw [hxs]; simp [hsz]; omega
  have hbw : b < w.heap.size := blk_lt hb
  have hvw : vb < w.heap.size := blk_lt hv
  have hik : i + (n + 1 - i) = n + 1 := by omega
  have hold : (Builtin.firstCells i0.size i (.slice (some ⟨b, 0, none⟩) i c)).run Tryd.prog w.drew = .ok (xs.take (i * 3)).toArray w.drew := by
    rw [hzs]
    refine run_firstCells_some w.drew 3 i ⟨b, 0, none⟩ i c (xs.take (i * 3)) (by simp [hxl]; omega) (fun j v hj => ?_)
    rw [Addr.add_lit]
    refine (cell_of_row w.drew b _ cur 54 (0, 0) hb).trans ?_
    rw [hxs, List.getElem?_take, List.getElem?_take] at hj
    split at hj
    · split at hj
      · simpa using hj
      · cases hj
    · cases hj
  obtain ⟨G, hG⟩ : ∃ G, G = grownCap w (n + 1) c 54 := ⟨_, rfl⟩
  obtain ⟨Z, hZ⟩ : ∃ Z : List Value, Z = (Builtin.zeroCells (Value.agg #[.int .i64 0, .int .i64 0, .int .i64 0]).cells (n + 1 - i)).toList ++ (Builtin.zeroCells (Value.agg #[.int .i64 0, .int .i64 0, .int .i64 0]).cells (G - (n + 1))).toList := ⟨_, rfl⟩
  have hGn : n + 1 ≤ G := by rw [hG]; exact grownCap_ge w _ _ _
  have hGm : G ≤ maxLen := by rw [hG]; exact grownCap_le_maxLen w (n + 1) c 54 (by unfold maxLen; omega)
  have hG63 : G ≤ 9223372036854775807 := by unfold maxLen at hGm; omega
  have hZl : Z.length = (G - i) * 3 := by
    rw [hZ]
    simp [Builtin.zeroCells, Value.cells]
    omega
  obtain ⟨W1, hW1⟩ : ∃ W1, W1 = w.drew.alloc (.cells (xs.take (i * 3) ++ Z).toArray 54) := ⟨_, rfl⟩
  have hrz : ∀ ty, (Builtin.append_ #[29, 3] ty #[.slice (some ⟨b, 0, none⟩) i c, .int .i64 ((n : Int) + 1 - (i : Int))]).run Tryd.prog w = .ok (.slice (some ⟨w.heap.size, 0, none⟩) (n + 1) G) W1 := fun ty => by
    have h := Lib.run_append_grow_zeros w 29 3 ty 54 i0 _ .i64 .i64 Tryd.underlying29 Tryd.underlying3 hi0 hz0 (some ⟨b, 0, none⟩) i c (xs.take (i * 3)) hold (n + 1 - i) (by omega) (by omega) (by omega) (by omega) (by rw [hzb]; omega) (by rw [hzb, hik]; exact growslice_fits (by omega) (by omega))
    rw [hik, ← hG] at h
    rw [show (n : Int) + 1 - (i : Int) = ((n + 1 - i : Nat) : Int) by omega, h, hW1, show (xs.take (i * 3)).toArray ++ Builtin.zeroCells (Value.agg #[.int .i64 0, .int .i64 0, .int .i64 0]).cells (n + 1 - i) ++ Builtin.zeroCells (Value.agg #[.int .i64 0, .int .i64 0, .int .i64 0]).cells (G - (n + 1)) = (xs.take (i * 3) ++ Z).toArray from Array.ext' (by rw [hZ]; simp)]
  have hb1 : W1.heap[w.heap.size]? = some (.cells (xs.take (i * 3) ++ Z).toArray 54 (0, 0)) := by rw [hW1]; exact heap_alloc_new w.drew _
  have hB1 : ∀ k, k < w.heap.size → W1.heap[k]? = w.heap[k]? := fun k hk => by rw [hW1]; exact Below.heap_alloc w.drew _ k hk
  have hg1 : w.grownBy W1 none := by rw [hW1]; exact ⟨rfl, rfl, rfl, by simp, fun k hk _ => Below.heap_alloc w.drew _ k hk⟩
  obtain ⟨W2, hW2⟩ : ∃ W2, W2 = W1.setRow w.heap.size (pi_over (xs.take (i * 3) ++ Z).toArray (i * 3) cs) := ⟨_, rfl⟩
  have hrl : ((xs.take (i * 3) ++ Z).toArray).size = G * 3 := by simp [hxl, hZl]; omega
  have hcpA : ∀ o dl dc ty, o = i * 3 → dl = n + 1 - i → (Builtin.copy_ #[29, 29] ty #[.slice (some ⟨w.heap.size, o, none⟩) dl dc, .slice (some ⟨vb, 0, none⟩) 1 vc]).run Tryd.prog W1 = .ok (goInt (1 : Nat)) W2 := by
    rintro o dl dc ty rfl rfl
    rw [hW2]
    refine pi_run_copy_rows W1 29 29 ty 54 w.heap.size _ (n + 1 - i) dc ⟨vb, 0, none⟩ 1 vc _ 54 3 1 cs hus hinfo hb1 (by simp only [Nat.min_def]; split <;> omega) (by omega) ?_ (by rw [hrl]; omega) h1v
    intro j v hj
    rw [Addr.add_lit]
    refine (cell_of_row W1 vb _ cs.toArray 54 (0, 0) ((hB1 vb hvw).trans hv)).trans ?_
    simpa using hj
  have hb2 : W2.heap[w.heap.size]? = some (.cells (pi_over (xs.take (i * 3) ++ Z).toArray (i * 3) cs) 54 (0, 0)) := by rw [hW2]; exact setRow_heap W1 w.heap.size _ _ _ _ hb1
  have hg2 : W1.grownBy W2 (some w.heap.size) := by rw [hW2]; exact pi_setRow_grown W1 _ _
  have hB2 : ∀ k, k < w.heap.size → W2.heap[k]? = w.heap[k]? := fun k hk => (hg2.block k (Nat.lt_of_lt_of_le hk hg1.size) (by simp; omega)).trans (hB1 k hk)
  obtain ⟨W3, hW3⟩ : ∃ W3, W3 = W2.drew.setRow w.heap.size (pi_over (pi_over (xs.take (i * 3) ++ Z).toArray (i * 3) cs) ((i + 1) * 3) (xs.drop (i * 3))) := ⟨_, rfl⟩
  have hcpB : ∀ o dl so sl dc sc ty, o = (i + 1) * 3 → so = i * 3 → dl = n - i → sl = n - i → (Builtin.copy_ #[29, 29] ty #[.slice (some ⟨w.heap.size, o, none⟩) dl dc, .slice (some ⟨b, so, none⟩) sl sc]).run Tryd.prog W2.drew = .ok (goInt (n - i : Nat)) W3 := by
    rintro o dl so sl dc sc ty rfl rfl rfl rfl
    rw [hW3]
    refine pi_run_copy_rows W2.drew 29 29 ty 54 w.heap.size _ (n - i) dc ⟨b, i * 3, none⟩ (n - i) sc _ 54 3 (n - i) (xs.drop (i * 3)) hus hinfo hb2 (by simp only [Nat.min_def]; split <;> omega) (by simp [hxl]; omega) ?_ ?_ h1
    · intro j v hj
      rw [Addr.add_lit]
      refine (cell_of_row W2.drew b _ cur 54 (0, 0) ((hB2 b hbw).trans hb)).trans ?_
      rw [hxs, List.getElem?_drop, List.getElem?_take] at hj
      split at hj
      · simpa using hj
      · cases hj
    · rw [pi_over_size _ _ _ (by rw [hrl]; omega), hrl]; simp [hxl]; omega
  have hfin : W3.heap[w.heap.size]? = some (.cells (pi_over (pi_over (xs.take (i * 3) ++ Z).toArray (i * 3) cs) ((i + 1) * 3) (xs.drop (i * 3))) 54 (0, 0)) ∧ w.grownBy W3 none := by
    rw [hW3]
    refine ⟨setRow_heap W2.drew w.heap.size _ _ _ _ hb2, ?_⟩
    have hg3 := pi_setRow_grown W2.drew w.heap.size (pi_over (pi_over (xs.take (i * 3) ++ Z).toArray (i * 3) cs) ((i + 1) * 3) (xs.drop (i * 3)))
    exact ⟨hg3.os.trans (hg2.os.trans hg1.os), hg3.tape.trans (hg2.tape.trans hg1.tape), hg3.output.trans (hg2.output.trans hg1.output), Nat.le_trans hg1.size (Nat.le_trans hg2.size hg3.size), fun k hk _ => (hg3.block k (Nat.lt_of_lt_of_le hk (Nat.le_trans hg1.size hg2.size)) (by simp; omega)).trans (hB2 k hk)⟩
  have END := Aside0.mk (And.intro hGn (And.intro hGm (And.intro hZl hfin)))
  have APP := Aside0.mk hrz
  have CPA := Aside0.mk hcpA
  have CPB := Aside0.mk hcpB
  have hz2 : ¬ ((i : Int) = (n : Int)) := by omega
  have hz3 : (c : Int) < (n : Int) + 1 := by omega
  have hb2' : ¬ (G = i + 1) := by omega
  have hb3' : ¬ (G = i) := by omega
  have hb4 : ¬ (c = i) := by omega
  have hb5 : (i : Int) + 1 ≤ (n : Int) + 1 := by omega
  have hb6 : (i : Int) ≤ (n : Int) + 1 := by omega
  have hb8 : (i : Int) ≤ (n : Int) := by omega
  have htn : ((i : Int) + 1).toNat = i + 1 := by omega
  have hw1 : IntKind.i64.wrap ((i : Int) + 1) = (i : Int) + 1 := by rw [IntKind.wrap_i64]; omega
  have hb7 : (0 : Int) ≤ (i : Int) + 1 := by omega
  clear hrz hcpA hcpB hfin hb1 hb2 hB1 hB2 hg1 hg2 hW1 hW2 hW3 hZ hZl hG hold hik hxl hxs hb hv h1 h1v hcl hsz hrl hGm
  go_enter Tryd.func40, Tryd.ntmps40
  go_wp2_with (first
    | ((with_reducible refine gate_builtin (b := .append) (xs := #[.tmp 34, .tmp 39]) rfl ?_); refine pi_wpList_append_is _ rfl (.tmp 34) (.tmp 39) 29 3 rfl (.slice (some ⟨b, 0, none⟩) i c) (.int .i64 ((n : Int) + 1 - (i : Int))) (by rfl) (by rfl) (APP.out _) ?_)
    | ((with_reducible refine gate_builtin (b := .copy) (xs := #[.tmp 43, .tmp 44]) rfl ?_); refine pi_wpList_copy_is _ rfl (.tmp 43) (.tmp 44) 29 29 rfl (.slice (some ⟨w.heap.size, i * 3, none⟩) (n + 1 - i) (G - i)) (.slice (some ⟨vb, 0, none⟩) 1 vc) (by rfl) (by rfl) (CPA.out _ _ _ _ rfl rfl) ?_))
  go_region_law (refine pi_step_copy_is rfl (.tmp 50) (.tmp 53) 29 29 rfl (.slice (some ⟨w.heap.size, (i + 1) * 3, none⟩) (n - i) (G - (i + 1))) (.slice (some ⟨b, i * 3, none⟩) (n - i) (c - i)) (by simp [Act.eval, Act.put]) (by simp [Act.eval, Act.put]) (CPB.out _ _ _ _ _ _ _ rfl rfl rfl rfl) ?_)
  go_wp2
  go_ret
  exact ⟨G, Z, END.out.1, END.out.2.1, END.out.2.2.1, rfl, END.out.2.2.2⟩
set_option maxHeartbeats 4000000 in
set_option maxRecDepth 100000 in
theorem pi_insert_end (v : Value) (n vb vc : Nat) (xs cs : List Value) (w : World) (base : Nat) (A : Option Addr) (c : Nat) (hv0 : v = .slice A n c) (hown : w.ownsRow base 54 3 v n xs) (hbase : base ≤ w.heap.size) (hbig : (n + 1) * 24 ≤ 140737488355328)
    (hcl : cs.length = 3) (h1v : ∀ u ∈ cs, u.oneCell' = true) (hv : w.heap[vb]? = some (.cells cs.toArray 54 (0, 0))) :
    Calls Tryd.prog 40 #[v, .int .i64 n, .slice (some ⟨vb, 0, none⟩) 1 vc] w fun e w' => ∃ v', e = .returned v' ∧ w'.ownsRow base 54 3 v' (n + 1) (xs ++ cs) ∧ w.grownBy w' v.ownBlock ∧ (v'.ownBlock = v.ownBlock ∨ v'.ownBlock = some w.heap.size) := by
  have hus := Tryd.underlying29
  have hue := Tryd.underlying54
  obtain ⟨i0, hi0, hz0, hzs, hzb⟩ := info_parts info54
  have hnc : n ≤ c := by subst hv0; exact own_le hown
  have hm : c ≤ maxLen := by
    subst hv0
    rcases hown.2 with ⟨h, h0⟩ | ⟨g, cap, cur, h, _, _, _, h4, _⟩
    · injection h with _ _ h; rw [h]; unfold maxLen; omega
    · injection h with _ _ h; rw [h]; exact h4
  have hAn : A = none → c = 0 := by
    subst hv0
    rintro rfl
    rcases hown.2 with ⟨h, h0⟩ | ⟨g, cap, cur, h, _, _, _, h4, _⟩
    · injection h
    · injection h with h; cases h
  unfold maxLen at hm
  obtain ⟨v', w', hr, h2, h3, h4, h5⟩ := run_append_own_at (P := Tryd.prog) (w := w) base 29 29 54 i0 _ 3 24 Tryd.underlying29 hi0 hz0 hzs hzb rfl (by decide) v n xs hown ⟨vb, 0, none⟩ 1 vc cs (by omega) (fun j u hj => by
    rw [Addr.add_lit]
    refine (cell_of_row w vb _ cs.toArray 54 (0, 0) hv).trans ?_
    simpa using hj) h1v (by unfold maxLen; omega) hbig hbase
  have END := Aside0.mk (And.intro h2 (And.intro h3 h5))
  have RUN := Aside0.mk hr
  clear h2 h3 h4 h5 hr hown hv h1v hcl
  subst hv0
  have hz2 : ((n : Int) == (n : Int)) = true := by simp
  go_enter Tryd.func40, Tryd.ntmps40
  cases A with
  | none =>
    have h0 := hAn rfl
    subst h0
    obtain rfl : n = 0 := by omega
    go_wp2_with ((with_reducible refine gate_builtin (b := .append) (xs := #[.tmp 23, .tmp 24]) rfl ?_); refine pi_wpList_append_is _ rfl (.tmp 23) (.tmp 24) 29 29 rfl (.slice none 0 0) (.slice (some ⟨vb, 0, none⟩) 1 vc) (by rfl) (by rfl) RUN.out ?_)
    go_ret
    exact ⟨v', rfl, END.out⟩
  | some ad =>
    obtain ⟨ab, ao, asp⟩ := ad
    go_wp2_with ((with_reducible refine gate_builtin (b := .append) (xs := #[.tmp 23, .tmp 24]) rfl ?_); refine pi_wpList_append_is _ rfl (.tmp 23) (.tmp 24) 29 29 rfl (.slice (some ⟨ab, ao, asp⟩) n c) (.slice (some ⟨vb, 0, none⟩) 1 vc) (by rfl) (by rfl) RUN.out ?_)
    all_goals (go_ret; exact ⟨v', rfl, END.out⟩)
theorem pi_insert_own (v : Value) (n i vb vc : Nat) (xs cs : List Value) (w : World) (base : Nat) (hown : w.ownsRow base 54 3 v n xs) (hi : i ≤ n) (hbase : base ≤ w.heap.size) (hbig : (n + 1) * 24 ≤ 140737488355328) (hvb : v.ownBlock ≠ some vb)
    (hcl : cs.length = 3) (h1v : ∀ u ∈ cs, u.oneCell' = true) (h1 : ∀ u ∈ xs, u.oneCell' = true) (hv : w.heap[vb]? = some (.cells cs.toArray 54 (0, 0))) :
    Calls Tryd.prog 40 #[v, .int .i64 i, .slice (some ⟨vb, 0, none⟩) 1 vc] w fun e w' => ∃ v', e = .returned v' ∧ w'.ownsRow base 54 3 v' (n + 1) (xs.take (i * 3) ++ (cs ++ xs.drop (i * 3))) ∧ w.grownBy w' v.ownBlock ∧ (v'.ownBlock = v.ownBlock ∨ v'.ownBlock = some w.heap.size) := by
  by_cases hin : i = n
  · subst hin
    have hxl := hown.1
    have e1 : xs.take (i * 3) = xs := List.take_of_length_le (by omega)
    have e2 : xs.drop (i * 3) = [] := List.drop_of_length_le (by omega)
    rw [e1, e2, List.append_nil]
    obtain ⟨A, c, rfl⟩ := own_slice hown
    exact pi_insert_end _ i vb vc xs cs w base A c rfl hown hbase hbig hcl h1v hv
  · have hlt : i < n := by omega
    have hxl := hown.1
    rcases hown.2 with ⟨rfl, h0⟩ | ⟨g, c, cur, rfl, hg, hb, hnc, hcm, hsz, hxs⟩
    · omega
    · have hne : vb ≠ g := fun e => hvb (by simp [Value.ownBlock, e])
      by_cases hroom : n + 1 ≤ c
      · refine (pi_insert_room g n c i vb vc cs cur w hlt hroom hcm hne hsz hb hcl h1v hv (fun u hu => by rw [hxs] at hu; exact h1 u (List.mem_of_mem_drop hu))).mono ?_
        rintro e w' ⟨rfl, hw, hgr⟩
        refine ⟨_, rfl, ⟨by simp [hxl, hcl]; omega, .inr ⟨g, c, _, rfl, hg, hw, hroom, hcm, ?_, ?_⟩⟩, hgr, .inl rfl⟩
        · have hdl : ((cur.toList.take (n * 3)).drop (i * 3)).length = (n - i) * 3 := by simp [hsz]; omega
          rw [pi_over_size _ _ _ (by rw [pi_over_size _ _ _ (by omega)]; omega), pi_over_size _ _ _ (by omega), hsz]
        · have := pi_take_room cur.toList cs n i hlt (by simp [hsz]; omega) hcl
          rw [hxs] at this
          rw [hxs]
          simpa using this
      · refine (pi_insert_grow g n c i vb vc xs cs cur w hlt hnc (by omega) hbig hxs.symm hsz hb hcl h1v hv (fun u hu => h1 u (List.mem_of_mem_drop hu))).mono ?_
        rintro e w' ⟨G, Z, hG, hGm, hZ, rfl, hw, hgr⟩
        refine ⟨_, rfl, ⟨by simp [hxl, hcl]; omega, .inr ⟨w.heap.size, G, _, rfl, hbase, hw, hG, hGm, ?_, ?_⟩⟩, pi_grown_any hgr _, .inr rfl⟩
        · have hrl : ((xs.take (i * 3) ++ Z).toArray).size = G * 3 := by simp [hxl, hZ]; omega
          have hdl : (xs.drop (i * 3)).length = (n - i) * 3 := by simp [hxl]; omega
          rw [pi_over_size _ _ _ (by rw [pi_over_size _ _ _ (by omega)]; omega), pi_over_size _ _ _ (by omega), hrl]
        · exact pi_take_grow xs Z cs n i hlt hxl (by rw [hZ]; omega) hcl
theorem pi_reps_insert {α : Type} {R : α → List Value → Prop} {size : Nat} {ps : List α} {cs c : List Value} {p : α} (h : Reps R size ps cs) (hp : R p c) (hc : c.length = size) (i : Nat) (hi : i ≤ ps.length) : Reps R size (ps.take i ++ p :: ps.drop i) (cs.take (i * size) ++ (c ++ cs.drop (i * size))) := by
  have h1 := Kd.reps_take h hi
  have h2 := Kd.reps_drop (m := i) h
  have h3 : Reps R size [p] c := by simpa using Reps.snoc (Reps.none R size) hp hc
  have h4 := Kd.reps_append h1 (Kd.reps_append h3 h2)
  simpa using h4
/-- slices.Insert of one element into a row of the call's own. -/
theorem pi_insert_calls (v : Value) (l : List S54) (x : S54) (i vb vc : Nat) (w : World) (base : Nat) (HO : Kd.R k54 54 w base (fun _ => True) v l) (hi : i ≤ l.length) (hbase : base ≤ w.heap.size) (hbig : (l.length + 1) * 24 ≤ 140737488355328) (hvb : v.ownBlock ≠ some vb)
    (hv : w.heap[vb]? = some (.cells #[.int .i64 x.f0, .int .i64 x.f1, .int .i64 x.f2] 54 (0, 0))) :
    Calls Tryd.prog 40 #[v, .int .i64 i, .slice (some ⟨vb, 0, none⟩) 1 vc] w fun e w' => ∃ v', e = .returned v' ∧ Kd.R k54 54 w' base (fun _ => True) v' (l.take i ++ x :: l.drop i) ∧ w.grownBy w' v.ownBlock ∧ (v'.ownBlock = v.ownBlock ∨ v'.ownBlock = some w.heap.size) := by
  obtain ⟨_, inner, hown, hr⟩ := HO
  have h1 : ∀ u ∈ inner, u.oneCell' = true := Kd.reps_one hr (by decide) (fun p c h u hu => k54.K_one (k54.K_of_M h) u hu)
  refine (pi_insert_own v l.length i vb vc inner [.int .i64 x.f0, .int .i64 x.f1, .int .i64 x.f2] w base hown hi hbase hbig hvb rfl (by simp [Value.oneCell']) h1 hv).mono ?_
  rintro e w' ⟨v', rfl, h2, h3, h4⟩
  refine ⟨v', rfl, ⟨fun _ _ => trivial, _, ?_, pi_reps_insert (R := k54.M w' base (fun k => True ∧ some k ≠ v'.ownBlock)) (hr.imp_ (fun q c h => ?_)) (k54_mkM _ _ _ x) rfl i hi⟩, h3, h4⟩
  · rw [show (l.take i ++ x :: l.drop i).length = l.length + 1 by simp; omega]
    exact h2
  · have e := k54_openM h
    subst e
    exact k54_mkM _ _ _ q
end Go.Proofs.YtldpacphackdjaaDoor.Print
/- That slices.Delete of one element answers the list without it, in the row of the call's own that came in. -/
namespace Go.Proofs.YtldpacphackdjaaDoor.Print
open Go.RowKit Go.Proofs.YtldpacphackdjaaDoorW.PrintWords Go.Proofs.YtldpacphackdjaaDoorW.PrintLast Go.Proofs.YtldpacphackdjaaDoorW.PrintMore
set_option linter.unusedVariables false
set_option linter.unusedSimpArgs false
theorem pd_step_append_is {P : Program} {ops : Array Oper} {o : Oper} {a : Act} {w : World} {K : Act → World → Prop} {Q : Exit → Act → World → Prop} {E : Prop}
    (hg : o.guard = none) (d x : Operand) (dT sT : TypeId) (hop : o.op = Op.call { callee := Callee.builtin Builtin.append, args := #[d, x], argTypes := #[dT, sT] })
    (v u : Value) (hd : a.eval d = v) (hx : a.eval x = u) {v' : Value} {w' : World} (hr : (Builtin.append_ #[dT, sT] o.type #[v, u]).run P w = .ok v' w') (hK : K (a.put o.dst v') w') :
    if Region.wanted o (yielded ops a.tmps) = true then Oper.wp P o a w K Q else E := by
  have hw : Region.wanted o (yielded ops a.tmps) = true := by simp [Region.wanted, hg]
  rw [if_pos hw]
  unfold Oper.wp
  simp [execOp, hop, resolve, invoke, builtin, hd, hx, hr, Result.andThen]
  exact hK
set_option maxHeartbeats 4000000 in
set_option maxRecDepth 100000 in
theorem pd_delete_own (v : Value) (n i : Nat) (xs : List Value) (w : World) (base : Nat) (hown : w.ownsRow base 54 3 v n xs) (hi : i < n) (h1 : ∀ u ∈ xs, u.oneCell' = true) :
    Calls Tryd.prog 53 #[v, .int .i64 (i : Int), .int .i64 ((i : Int) + 1)] w fun e w' => ∃ v', e = .returned v' ∧ w'.ownsRow base 54 3 v' (n - 1) (xs.take (i * 3) ++ xs.drop ((i + 1) * 3)) ∧ w.grownBy w' v.ownBlock ∧ v'.ownBlock = v.ownBlock := by
  have hus := Tryd.underlying29
  have hue := Tryd.underlying54
  have hxl := hown.1
  rcases hown.2 with ⟨rfl, h0⟩ | ⟨g, c, cur, rfl, hg, hb, hnc, hcm, hsz, hxs⟩
  · omega
  obtain ⟨i0, hi0, hz0, hzs, hzb⟩ := info_parts info54
  have htk : w.drew.ownsRow base 54 3 (.slice (some ⟨g, 0, none⟩) i c) i (xs.take (i * 3)) := own_take hown (by omega)
  have hcm' := hcm
  unfold maxLen at hcm'
  -- the append in place
  have hrun : ∃ w1, (∀ so sl sc ty, sl = n - (i + 1) → (sl = 0 ∨ so = ⟨g, (i + 1) * 3, none⟩) → (Builtin.append_ #[29, 29] ty #[.slice (some ⟨g, 0, none⟩) i c, .slice (some so) sl sc]).run Tryd.prog w.drew = .ok (.slice (some ⟨g, 0, none⟩) (n - 1) c) w1) ∧
      w1.ownsRow base 54 3 (.slice (some ⟨g, 0, none⟩) (n - 1) c) (n - 1) (xs.take (i * 3) ++ xs.drop ((i + 1) * 3)) ∧ w.drew.grownBy w1 (some g) := by
    have hreads : ∀ j u, (xs.drop ((i + 1) * 3))[j]? = some u → w.drew.cell? ((⟨g, (i + 1) * 3, none⟩ : Addr).add j) = some u := fun j u hj => by
      rw [Addr.add_lit]
      refine (cell_of_row w.drew g _ cur 54 (0, 0) hb).trans ?_
      rw [← hxs, List.getElem?_drop, List.getElem?_take] at hj
      split at hj
      · simpa using hj
      · cases hj
    obtain ⟨w1, hr, ho, hgr⟩ := run_append_fits (P := Tryd.prog) w.drew base 29 0 54 i0 3 Tryd.underlying29 hi0 hzs g i c (xs.take (i * 3)) htk ⟨g, (i + 1) * 3, none⟩ (n - (i + 1)) 0 (xs.drop ((i + 1) * 3)) (by simp [hxl]; omega) hreads (fun u hu => h1 u (List.mem_of_mem_drop hu)) (by omega)
    have e : i + (n - (i + 1)) = n - 1 := by omega
    rw [e] at hr ho
    refine ⟨w1, ?_, ho, hgr⟩
    rintro so sl sc ty rfl (h0 | rfl)
    · obtain ⟨w2, hr2, ho2, hgr2⟩ := run_append_fits (P := Tryd.prog) w.drew base 29 ty 54 i0 3 Tryd.underlying29 hi0 hzs g i c (xs.take (i * 3)) htk so (n - (i + 1)) sc (xs.drop ((i + 1) * 3)) (by simp [hxl]; omega) (fun j u hj => by rw [List.drop_of_length_le (by omega)] at hj; simp at hj) (fun u hu => h1 u (List.mem_of_mem_drop hu)) (by omega)
      rw [e] at hr2
      have hw : w2 = w1 := by
        have a1 := run_append_room (P := Tryd.prog) w.drew 29 0 54 i0 Tryd.underlying29 hi0 g i c cur hb ⟨g, (i + 1) * 3, none⟩ (n - (i + 1)) 0 (xs.drop ((i + 1) * 3)) (by rw [hzs]; simp [hxl]; omega) hreads (fun u hu => h1 u (List.mem_of_mem_drop hu)) (by omega) (by rw [hzs, hsz]; simp [hxl]; omega)
        have a2 := run_append_room (P := Tryd.prog) w.drew 29 ty 54 i0 Tryd.underlying29 hi0 g i c cur hb so (n - (i + 1)) sc (xs.drop ((i + 1) * 3)) (by rw [hzs]; simp [hxl]; omega) (fun j u hj => by rw [List.drop_of_length_le (by omega)] at hj; simp at hj) (fun u hu => h1 u (List.mem_of_mem_drop hu)) (by omega) (by rw [hzs, hsz]; simp [hxl]; omega)
        rw [e] at a1 a2
        rw [hr] at a1
        rw [hr2] at a2
        injection a1 with _ a1
        injection a2 with _ a2
        rw [a1, a2]
      rw [hr2, hw]
    · have a1 := run_append_room (P := Tryd.prog) w.drew 29 0 54 i0 Tryd.underlying29 hi0 g i c cur hb ⟨g, (i + 1) * 3, none⟩ (n - (i + 1)) 0 (xs.drop ((i + 1) * 3)) (by rw [hzs]; simp [hxl]; omega) hreads (fun u hu => h1 u (List.mem_of_mem_drop hu)) (by omega) (by rw [hzs, hsz]; simp [hxl]; omega)
      have a2 := run_append_room (P := Tryd.prog) w.drew 29 ty 54 i0 Tryd.underlying29 hi0 g i c cur hb ⟨g, (i + 1) * 3, none⟩ (n - (i + 1)) sc (xs.drop ((i + 1) * 3)) (by rw [hzs]; simp [hxl]; omega) hreads (fun u hu => h1 u (List.mem_of_mem_drop hu)) (by omega) (by rw [hzs, hsz]; simp [hxl]; omega)
      rw [e] at a1 a2
      rw [a2]
      rw [hr] at a1
      injection a1 with _ a1
      rw [a1]
  obtain ⟨w1, happ, ho1, hg1⟩ := hrun
  rcases ho1.2 with ⟨h, _⟩ | ⟨g', c', cur1, h, _, hb1, hnc1, hcm1, hsz1, hxs1⟩
  · simp at h
  simp only [Value.slice.injEq, Option.some.injEq, Addr.mk.injEq, and_true, true_and] at h
  obtain ⟨rfl, rfl⟩ := h
  -- the clearing of the last place
  have hclr : ∀ ty k cc, k = 1 → (Builtin.clear_ #[29] ty #[.slice (some ⟨g, (n - 1) * 3, none⟩) k cc]).run Tryd.prog w1 = .ok (.tuple #[]) (w1.setRow g (pi_over cur1 ((n - 1) * 3) ([.int .i64 0, .int .i64 0, .int .i64 0])))   := fun ty k cc hk => by
    subst hk
    have hst := run_storeCells_at Tryd.prog g ((n - 1) * 3) 54 ([.int .i64 0, .int .i64 0, .int .i64 0]) 0 cur1 w1 hb1 (by rw [hsz1]; simp; omega) (by intro u hu; simp at hu; subst hu; rfl)
    have hzv : ∀ w, (zeroValue 54).run Tryd.prog w = .ok (.agg #[.int .i64 0, .int .i64 0, .int .i64 0]) w := fun w => by kernel_rfl
    have hzc : (Builtin.zeroCells (Value.agg #[.int .i64 0, .int .i64 0, .int .i64 0]).cells 1).toList = [.int .i64 0, .int .i64 0, .int .i64 0] := by kernel_rfl
    simp only [Builtin.clear_]
    simp [run_underlying hus, hzv, hzc, hst, pi_over]
  have hrow : (w1.setRow g (pi_over cur1 ((n - 1) * 3) ([.int .i64 0, .int .i64 0, .int .i64 0]))).ownsRow base 54 3 (.slice (some ⟨g, 0, none⟩) (n - 1) c) (n - 1) (xs.take (i * 3) ++ xs.drop ((i + 1) * 3)) := by
    refine ⟨ho1.1, .inr ⟨g, c, _, rfl, hg, setRow_heap w1 g _ _ _ _ hb1, by omega, hcm, ?_, ?_⟩⟩
    · rw [pi_over_size _ _ _ (by rw [hsz1]; simp; omega), hsz1]
    · rw [pi_over_list, List.append_assoc, List.take_append_of_le_length (by simp [hsz1]; omega), List.take_take, Nat.min_self, hxs1]
  have hgr : w.grownBy (w1.setRow g (pi_over cur1 ((n - 1) * 3) ([.int .i64 0, .int .i64 0, .int .i64 0]))) (some g) := pi_grown_trans (pi_grown_trans (pi_drew_grown w _) hg1) (pi_setRow_grown w1 g _)
  have END := Aside0.mk (And.intro hrow hgr)
  have APP := Aside0.mk happ
  generalize w1.setRow g (pi_over cur1 ((n - 1) * 3) ([.int .i64 0, .int .i64 0, .int .i64 0])) = w2 at END hclr
  have CLR := Aside0.mk hclr
  have hz2 : ((i : Int) == (i : Int) + 1) = false := by rw [beq_eq_false_iff_ne]; omega
  have hz3 : ¬ ((i : Int) = (i : Int) + 1) := by omega
  have hb5 : (i : Int) + 1 ≤ (n : Int) := by omega
  have hb6 : (i : Int) ≤ (n : Int) := by omega
  have hb7 : (0 : Int) ≤ (i : Int) + 1 := by omega
  have hb8 : (i : Int) ≤ (c : Int) := by omega
  have hb9 : (n : Int) ≤ (c : Int) := by omega
  have htn : ((i : Int) + 1).toNat = i + 1 := by omega
  have hn1 : 1 ≤ n := by omega
  have hn2 : ¬ (c = n - 1) := by omega
  have hn3 : ¬ (c = i) := by omega
  have hn4 : ¬ (n = i) := by omega
  clear hclr happ hrow hgr hxs hxs1 hsz hsz1 hb hb1 ho1 hown htk hxl h1 hcm hcm1 hnc1
  by_cases hci : c = i + 1
  · have hni : n = i + 1 := by omega
    subst hni
    subst hci
    have q1 : (i : Int) ≤ (i : Int) + 1 := by omega
    have q2 : (0 : Int) ≤ (i : Int) := by omega
    go_enter Tryd.func53, Tryd.ntmps53
    go_wp2
    go_region_law (refine pd_step_append_is rfl (.tmp 22) (.tmp 25) 29 29 rfl (.slice (some ⟨g, 0, none⟩) i (i + 1)) (.slice (some ⟨g, 0, none⟩) 0 0) (by simp [Act.eval, Act.put]) (by simp [Act.eval, Act.put]) (APP.out _ _ _ _ (by omega) (.inl rfl)) ?_)
    have hclr := CLR.out 0 1 1 rfl; simp only [Nat.add_sub_cancel] at hclr
    go_wp2
    go_ret
    exact ⟨_, rfl, END.out.1, END.out.2, rfl⟩
  · have q3 : ((n : Int) - 1).toNat = n - 1 := by omega
    go_enter Tryd.func53, Tryd.ntmps53
    go_wp2
    go_region_law (refine pd_step_append_is rfl (.tmp 22) (.tmp 25) 29 29 rfl (.slice (some ⟨g, 0, none⟩) i c) (.slice (some ⟨g, (i + 1) * 3, none⟩) (n - (i + 1)) (c - (i + 1))) (by simp [Act.eval, Act.put]) (by simp [Act.eval, Act.put]) (APP.out _ _ _ _ rfl (.inr rfl)) ?_)
    have hclr := CLR.out 0 (n - (n - 1)) (c - (n - 1)) (by omega)
    go_wp2
    go_ret
    exact ⟨_, rfl, END.out.1, END.out.2, rfl⟩
theorem pd_reps_delete {α : Type} {R : α → List Value → Prop} {size : Nat} {ps : List α} {cs : List Value} (h : Reps R size ps cs) (i : Nat) (hi : i ≤ ps.length) : Reps R size (ps.take i ++ ps.drop (i + 1)) (cs.take (i * size) ++ cs.drop ((i + 1) * size)) :=
  Kd.reps_append (Kd.reps_take h hi) (Kd.reps_drop (m := i + 1) h)
/-- slices.Delete of one element out of a row of the call's own. -/
theorem pd_delete_calls (v : Value) (l : List S54) (i : Nat) (w : World) (base : Nat) (HO : Kd.R k54 54 w base (fun _ => True) v l) (hi : i < l.length) :
    Calls Tryd.prog 53 #[v, .int .i64 (i : Int), .int .i64 ((i : Int) + 1)] w fun e w' => ∃ v', e = .returned v' ∧ Kd.R k54 54 w' base (fun _ => True) v' (l.take i ++ l.drop (i + 1)) ∧ w.grownBy w' v.ownBlock ∧ v'.ownBlock = v.ownBlock := by
  obtain ⟨_, inner, hown, hr⟩ := HO
  have h1 : ∀ u ∈ inner, u.oneCell' = true := Kd.reps_one hr (by decide) (fun p c h u hu => k54.K_one (k54.K_of_M h) u hu)
  refine (pd_delete_own v l.length i inner w base hown hi h1).mono ?_
  rintro e w' ⟨v', rfl, h2, h3, h4⟩
  refine ⟨v', rfl, ⟨fun _ _ => trivial, _, ?_, pd_reps_delete (R := k54.M w' base (fun k => True ∧ some k ≠ v'.ownBlock)) (hr.imp_ (fun q c h => ?_)) i (by omega)⟩, h3, h4⟩
  · rw [show (l.take i ++ l.drop (i + 1)).length = l.length - 1 by simp; omega]
    exact h2
  · have e := k54_openM h
    subst e
    exact k54_mkM _ _ _ q
end Go.Proofs.YtldpacphackdjaaDoor.Print
