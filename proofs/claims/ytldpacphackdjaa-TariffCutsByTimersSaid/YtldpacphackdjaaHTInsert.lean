/- That slices.Insert of one element answers the list with the element at its place, in a row of the call's own, whether there is room or not. -/
import Derived.Test.YtldpacphackdjaaK0
import Derived.Lib.AppendZerosOnto
import Derived.Lib.Overlaps
import Derived.Laws.Externs
import Derived.Laws.IdiomCopy
import Derived.Laws.CopyRow
import Derived.Deep.RegionLaw
namespace Go.Proofs.Ytldpacphackdjaa.Print
open Go.RowKit Go.Proofs.YtldpacphackdjaaW.PrintWords Go.Proofs.YtldpacphackdjaaW.PrintLast Go.Proofs.YtldpacphackdjaaW.PrintMore
set_option linter.unusedVariables false
set_option linter.unusedSimpArgs false

theorem ti_wpList_copy_is {P : Program} (w : World) {ops : Array Oper} {rest : List Oper} {o : Oper} {a : Act} {Q : Exit → Act → World → Prop} (hgd : o.guard = none) (d s : Operand) (t t' : TypeId)
    (ho : o.op = .call { callee := .builtin .copy, args := #[d, s], argTypes := #[t, t'] }) (v u : Value) (hd : a.eval d = v) (hs : a.eval s = u) {v' : Value} {w' : World}
    (hr : (Builtin.copy_ #[t, t'] o.type #[v, u]).run P w = .ok v' w') (h : wpList P ops Q rest (a.put o.dst v') w') : wpList P ops Q (o :: rest) a w :=
  wpList_plain hgd fun _ hK => by
    unfold Oper.wp execOp
    simp only [ho, resolve, invoke, builtin, Sem.run_bind, Sem.run_pure, Result.andThen_ok, List.map_toArray, List.map_cons, List.map_nil, hd, hs, hr]
    exact hK _ _ h
theorem ti_step_copy_is {P : Program} {ops : Array Oper} {o : Oper} {a : Act} {w : World} {K : Act → World → Prop} {Q : Exit → Act → World → Prop} {E : Prop}
    (hg : o.guard = none) (d x : Operand) (dT sT : TypeId) (hop : o.op = Op.call { callee := Callee.builtin Builtin.copy, args := #[d, x], argTypes := #[dT, sT] })
    (v u : Value) (hd : a.eval d = v) (hx : a.eval x = u) {v' : Value} {w' : World} (hr : (Builtin.copy_ #[dT, sT] o.type #[v, u]).run P w = .ok v' w') (hK : K (a.put o.dst v') w') :
    if Region.wanted o (yielded ops a.tmps) = true then Oper.wp P o a w K Q else E := by
  have hw : Region.wanted o (yielded ops a.tmps) = true := by simp [Region.wanted, hg]
  rw [if_pos hw]
  unfold Oper.wp
  simp [execOp, hop, resolve, invoke, builtin, hd, hx, hr, Result.andThen]
  exact hK
theorem ti_wpList_append_is {P : Program} (w : World) {ops : Array Oper} {rest : List Oper} {o : Oper} {a : Act} {Q : Exit → Act → World → Prop} (hgd : o.guard = none) (d s : Operand) (t t' : TypeId)
    (ho : o.op = .call { callee := .builtin .append, args := #[d, s], argTypes := #[t, t'] }) (v u : Value) (hd : a.eval d = v) (hs : a.eval s = u) {v' : Value} {w' : World}
    (hr : (Builtin.append_ #[t, t'] o.type #[v, u]).run P w = .ok v' w') (h : wpList P ops Q rest (a.put o.dst v') w') : wpList P ops Q (o :: rest) a w :=
  wpList_plain hgd fun _ hK => by
    unfold Oper.wp execOp
    simp only [ho, resolve, invoke, builtin, Sem.run_bind, Sem.run_pure, Result.andThen_ok, List.map_toArray, List.map_cons, List.map_nil, hd, hs, hr]
    exact hK _ _ h
/-- A row's cells over another part of a row that is known whole. -/
def ti_over (cur : Array Value) (o : Nat) (cs : List Value) : Array Value := (cur.toList.take o ++ cs ++ cur.toList.drop (o + cs.length)).toArray
theorem ti_over_size (cur : Array Value) (o : Nat) (cs : List Value) (h : o + cs.length ≤ cur.size) : (ti_over cur o cs).size = cur.size := by
  simp [ti_over]
  omega
theorem ti_over_list (cur : Array Value) (o : Nat) (cs : List Value) : (ti_over cur o cs).toList = cur.toList.take o ++ cs ++ cur.toList.drop (o + cs.length) := by simp [ti_over]
theorem ti_run_copy_rows {P : Program} (w : World) (dT sT ty elem : TypeId) (g o dLen dCap : Nat) (a : Addr) (sLen sCap : Nat) (cur : Array Value) (t : TypeId) (sz k : Nat) (cs : List Value)
    (hu : P.underlying dT = some (.slice elem)) (hs : (P.info? elem).map (·.size) = some sz)
    (hg : w.heap[g]? = some (.cells cur t (0, 0))) (hk : Nat.min sLen dLen = k) (hn : cs.length = k * sz)
    (hsrc : ∀ j v, cs[j]? = some v → w.cell? (a.add j) = some v) (hfit : o + cs.length ≤ cur.size) (h1 : ∀ v ∈ cs, v.oneCell' = true) :
    (Builtin.copy_ #[dT, sT] ty #[.slice (some ⟨g, o, none⟩) dLen dCap, .slice (some a) sLen sCap]).run P w = .ok (goInt k) (w.setRow g (ti_over cur o cs)) := by
  have hl := run_loadCells_list (P := P) w a cs hsrc
  have hst := run_storeCells_at P g o t cs 0 cur w hg (by simpa using hfit) h1
  cases hq : P.info? elem with
  | none => simp [hq] at hs
  | some i =>
    have hi : i.size = sz := by simpa [hq] using hs
    simp [Builtin.copy_, run_underlying hu, Builtin.lenOf, Builtin.firstCells, sizeOf, typeInfo, hq, hi, hk, ← hn, hl, hst, ti_over]
theorem ti_setRow_grown (w : World) (g : Nat) (cs : Array Value) : w.grownBy (w.setRow g cs) (some g) :=
  ⟨rfl, rfl, rfl, by simp [World.setRow], fun k hk hne => setRow_other w g k cs (by intro h; exact hne (by rw [h]))⟩
theorem ti_grown_trans {w w1 w2 : World} {r : Option Nat} (h : w.grownBy w1 r) (k : w1.grownBy w2 r) : w.grownBy w2 r :=
  ⟨k.os.trans h.os, k.tape.trans h.tape, k.output.trans h.output, Nat.le_trans h.size k.size, fun i hi hne => (k.block i (Nat.lt_of_lt_of_le hi h.size) hne).trans (h.block i hi hne)⟩
theorem ti_drew_grown (w : World) (r : Option Nat) : w.grownBy w.drew r := ⟨rfl, rfl, rfl, Nat.le_refl _, fun _ _ _ => rfl⟩
theorem ti_grown_any {w w1 : World} (h : w.grownBy w1 none) (r : Option Nat) : w.grownBy w1 r := ⟨h.os, h.tape, h.output, h.size, fun i hi _ => h.block i hi (by simp)⟩

set_option maxHeartbeats 4000000 in
set_option maxRecDepth 100000 in
theorem ti_insert_room (b n c i vb vc : Nat) (cs : List Value) (cur : Array Value) (w : World) (hi : i < n) (hroom : n + 1 ≤ c) (hc63 : c ≤ maxLen) (hvb : vb ≠ b) (hsz : cur.size = c * 2)
    (hb : w.heap[b]? = some (.cells cur 64 (0, 0))) (hcl : cs.length = 2) (h1v : ∀ v ∈ cs, v.oneCell' = true) (hv : w.heap[vb]? = some (.cells cs.toArray 64 (0, 0))) (h1 : ∀ v ∈ (cur.toList.take (n * 2)).drop (i * 2), v.oneCell' = true) :
    Calls Try.prog 60 #[.slice (some ⟨b, 0, none⟩) n c, .int .i64 i, .slice (some ⟨vb, 0, none⟩) 1 vc] w fun e w' => e = .returned (.slice (some ⟨b, 0, none⟩) (n + 1) c) ∧
      w'.heap[b]? = some (.cells (ti_over (ti_over cur ((i + 1) * 2) ((cur.toList.take (n * 2)).drop (i * 2))) (i * 2) cs) 64 (0, 0)) ∧ w.grownBy w' (some b) := by
  have hus := Try.underlying43
  have hue := Try.underlying64
  unfold maxLen at hc63
  have hinfo : (Try.prog.info? 64).map (·.size) = some 2 := by kernel_rfl
  have hdl : ((cur.toList.take (n * 2)).drop (i * 2)).length = (n - i) * 2 := by simp [hsz]; omega
  obtain ⟨mid, hmid⟩ : ∃ mid, mid = (cur.toList.take (n * 2)).drop (i * 2) := ⟨_, rfl⟩
  rw [← hmid] at hdl h1 ⊢
  obtain ⟨W1, hW1⟩ : ∃ W1, W1 = w.drew.setRow b (ti_over cur ((i + 1) * 2) mid) := ⟨_, rfl⟩
  have hb1 : W1.heap[b]? = some (.cells (ti_over cur ((i + 1) * 2) mid) 64 (0, 0)) := by rw [hW1]; exact setRow_heap w.drew b _ _ _ _ hb
  have hv1 : W1.heap[vb]? = some (.cells cs.toArray 64 (0, 0)) := by rw [hW1]; exact (setRow_other w.drew b vb _ hvb).trans hv
  have hov : ∀ lb cb o, (callFunc 73 #[.slice (some ⟨vb, 0, none⟩) 1 vc, .slice (some ⟨b, o, none⟩) lb cb]).run Try.prog w = .ok (.value (.bool false)) w := fun lb cb o => by
    rw [run_callFunc_extern Try.func73 (by kernel_rfl) (by kernel_rfl) (by kernel_rfl) (e := Extern.SlicesOverlaps.overlaps #[43, 43] #[4]) (by kernel_rfl),
      Lib.run_overlaps_apart w 43 4 64 Try.underlying43 2 (fun w => by kernel_rfl) ⟨vb, 0, none⟩ ⟨b, o, none⟩ 1 vc lb cb hvb 64 64 cs.toArray.size cur.size (by simp [World.shape?, hv]) (by simp [World.shape?, hb]) (by omega) (by simp [World.frozen?, hv]) (by simp [World.frozen?, hv])]
    rfl
  have hcp1 : ∀ o dl so sl dc sc ty, o = (i + 1) * 2 → so = i * 2 → dl = n - i → sl = n + 1 - i → (Builtin.copy_ #[43, 43] ty #[.slice (some ⟨b, o, none⟩) dl dc, .slice (some ⟨b, so, none⟩) sl sc]).run Try.prog w.drew = .ok (goInt (n - i : Nat)) W1 := by
    rintro o dl so sl dc sc ty rfl rfl rfl rfl
    rw [hW1]
    refine ti_run_copy_rows w.drew 43 43 ty 64 b _ (n - i) dc ⟨b, i * 2, none⟩ (n + 1 - i) sc cur 64 2 (n - i) mid hus hinfo hb (by simp only [Nat.min_def]; split <;> omega) hdl ?_ (by rw [hdl]; omega) h1
    intro j v hj
    rw [Addr.add_lit]
    refine (cell_of_row w.drew b _ cur 64 (0, 0) hb).trans ?_
    rw [hmid, List.getElem?_drop, List.getElem?_take] at hj
    split at hj
    · simpa using hj
    · cases hj
  have hcp2 : ∀ o dl dc ty, o = i * 2 → dl = n + 1 - i → (Builtin.copy_ #[43, 43] ty #[.slice (some ⟨b, o, none⟩) dl dc, .slice (some ⟨vb, 0, none⟩) 1 vc]).run Try.prog W1 = .ok (goInt (1 : Nat)) (W1.setRow b (ti_over (ti_over cur ((i + 1) * 2) mid) (i * 2) cs)) := by
    rintro o dl dc ty rfl rfl
    refine ti_run_copy_rows W1 43 43 ty 64 b _ (n + 1 - i) dc ⟨vb, 0, none⟩ 1 vc _ 64 2 1 cs hus hinfo hb1 (by simp only [Nat.min_def]; split <;> omega) (by omega) ?_ ?_ h1v
    · intro j v hj
      rw [Addr.add_lit]
      refine (cell_of_row W1 vb _ cs.toArray 64 (0, 0) hv1).trans ?_
      simpa using hj
    · rw [ti_over_size _ _ _ (by rw [hdl]; omega)]; omega
  have hend : W1.setRow b (ti_over (ti_over cur ((i + 1) * 2) mid) (i * 2) cs) = W1.setRow b (ti_over (ti_over cur ((i + 1) * 2) mid) (i * 2) cs) → ((W1.setRow b (ti_over (ti_over cur ((i + 1) * 2) mid) (i * 2) cs)).heap[b]? = some (.cells (ti_over (ti_over cur ((i + 1) * 2) mid) (i * 2) cs) 64 (0, 0)) ∧ w.grownBy (W1.setRow b (ti_over (ti_over cur ((i + 1) * 2) mid) (i * 2) cs)) (some b)) := fun _ =>
    ⟨setRow_heap W1 b _ _ _ _ hb1, ti_grown_trans (by rw [hW1]; exact ti_grown_trans (ti_drew_grown w _) (ti_setRow_grown w.drew b _)) (ti_setRow_grown W1 b _)⟩
  obtain ⟨W2, hW2⟩ : ∃ W2, W2 = W1.setRow b (ti_over (ti_over cur ((i + 1) * 2) mid) (i * 2) cs) := ⟨_, rfl⟩
  rw [← hW2] at hend hcp2
  have END := Aside0.mk (hend rfl)
  have CP1 := Aside0.mk hcp1
  have CP2 := Aside0.mk hcp2
  have hz2 : ¬ ((i : Int) = (n : Int)) := by omega
  have hb2 : ¬ (c = i + 1) := by omega
  have hb4 : ¬ (c = i) := by omega
  have hb5 : (i : Int) + 1 ≤ (n : Int) + 1 := by omega
  have hb6 : (i : Int) ≤ (n : Int) + 1 := by omega
  have htn : ((i : Int) + 1).toNat = i + 1 := by omega
  have hw1 : IntKind.i64.wrap ((i : Int) + 1) = (i : Int) + 1 := by rw [IntKind.wrap_i64]; omega
  have hb7 : (0 : Int) ≤ (i : Int) + 1 := by omega
  clear hcp1 hcp2 hend hb1 hv1 hb hv hdl h1 h1v hcl hsz hmid hW1 hW2
  go_enter Try.func60, Try.ntmps60
  go_wp2_with (simp only [hov])
  go_region_law (refine ti_step_copy_is rfl (.tmp 73) (.tmp 76) 43 43 rfl (.slice (some ⟨b, (i + 1) * 2, none⟩) (n - i) (c - (i + 1))) (.slice (some ⟨b, i * 2, none⟩) (n + 1 - i) (c - i)) (by simp [Act.eval, Act.put]) (by simp [Act.eval, Act.put]) (CP1.out _ _ _ _ _ _ _ rfl rfl rfl rfl) ?_)
  go_wp2_with ((with_reducible refine gate_builtin (b := .copy) (xs := #[.tmp 80, .tmp 81]) rfl ?_); refine ti_wpList_copy_is _ rfl (.tmp 80) (.tmp 81) 43 43 rfl (.slice (some ⟨b, i * 2, none⟩) (n + 1 - i) (c - i)) (.slice (some ⟨vb, 0, none⟩) 1 vc) (by rfl) (by rfl) (CP2.out _ _ _ _ rfl rfl) ?_)
  go_ret
  exact ⟨rfl, END.out⟩
theorem ti_take_room (L cs : List Value) (n i : Nat) (hi : i < n) (hn : (n + 1) * 2 ≤ L.length) (hcl : cs.length = 2) :
    (ti_over (ti_over L.toArray ((i + 1) * 2) ((L.take (n * 2)).drop (i * 2))) (i * 2) cs).toList.take ((n + 1) * 2) = (L.take (n * 2)).take (i * 2) ++ (cs ++ (L.take (n * 2)).drop (i * 2)) := by
  obtain ⟨mid, hmid⟩ : ∃ mid, mid = (L.take (n * 2)).drop (i * 2) := ⟨_, rfl⟩
  have hml : mid.length = (n - i) * 2 := by rw [hmid]; simp; omega
  rw [← hmid, ti_over_list, ti_over_list]
  have e0 : (L.toArray).toList = L := rfl
  rw [e0]
  have e1 : (L.take ((i + 1) * 2) ++ mid ++ L.drop ((i + 1) * 2 + mid.length)).take (i * 2) = (L.take (n * 2)).take (i * 2) := by
    rw [List.append_assoc, List.take_append_of_le_length (by simp; omega), List.take_take, List.take_take]
    congr 1
    omega
  have e2 : (L.take ((i + 1) * 2) ++ mid ++ L.drop ((i + 1) * 2 + mid.length)).drop (i * 2 + cs.length) = mid ++ L.drop ((i + 1) * 2 + mid.length) := by
    rw [List.append_assoc]
    exact List.drop_left' (by simp; omega)
  rw [e1, e2]
  have e3 : (L.take (n * 2)).take (i * 2) ++ cs ++ (mid ++ L.drop ((i + 1) * 2 + mid.length)) = ((L.take (n * 2)).take (i * 2) ++ (cs ++ mid)) ++ L.drop ((i + 1) * 2 + mid.length) := by simp only [List.append_assoc]
  rw [e3]
  exact List.take_left' (by simp [hml, hcl]; omega)
theorem ti_take_grow (xs Z cs : List Value) (n i : Nat) (hi : i < n) (hxl : xs.length = n * 2) (hz : (n + 1 - i) * 2 ≤ Z.length) (hcl : cs.length = 2) :
    (ti_over (ti_over (xs.take (i * 2) ++ Z).toArray (i * 2) cs) ((i + 1) * 2) (xs.drop (i * 2))).toList.take ((n + 1) * 2) = xs.take (i * 2) ++ (cs ++ xs.drop (i * 2)) := by
  obtain ⟨mid, hmid⟩ : ∃ mid, mid = xs.drop (i * 2) := ⟨_, rfl⟩
  have hml : mid.length = (n - i) * 2 := by rw [hmid]; simp [hxl]; omega
  obtain ⟨lo, hlo⟩ : ∃ lo, lo = xs.take (i * 2) := ⟨_, rfl⟩
  have hll : lo.length = i * 2 := by rw [hlo]; simp [hxl]; omega
  rw [← hmid, ← hlo, ti_over_list, ti_over_list]
  have e0 : ((lo ++ Z).toArray).toList = lo ++ Z := rfl
  rw [e0]
  have e1 : (lo ++ Z).take (i * 2) = lo := List.take_left' hll
  rw [e1]
  have e2 : (lo ++ cs ++ (lo ++ Z).drop (i * 2 + cs.length)).take ((i + 1) * 2) = lo ++ cs := List.take_left' (by simp [hll, hcl]; omega)
  rw [e2]
  have e3 : lo ++ cs ++ mid ++ (lo ++ cs ++ (lo ++ Z).drop (i * 2 + cs.length)).drop ((i + 1) * 2 + mid.length) = (lo ++ (cs ++ mid)) ++ (lo ++ cs ++ (lo ++ Z).drop (i * 2 + cs.length)).drop ((i + 1) * 2 + mid.length) := by simp only [List.append_assoc]
  rw [e3]
  exact List.take_left' (by simp [hml, hcl, hll]; omega)
set_option maxHeartbeats 4000000 in
set_option maxRecDepth 100000 in
theorem ti_insert_grow (b n c i vb vc : Nat) (xs cs : List Value) (cur : Array Value) (w : World) (hi : i < n) (hnc : n ≤ c) (hroom : c < n + 1) (hbig : (n + 1) * 16 ≤ 140737488355328) (hxs : xs = cur.toList.take (n * 2)) (hsz : cur.size = c * 2)
    (hb : w.heap[b]? = some (.cells cur 64 (0, 0))) (hcl : cs.length = 2) (h1v : ∀ v ∈ cs, v.oneCell' = true) (hv : w.heap[vb]? = some (.cells cs.toArray 64 (0, 0))) (h1 : ∀ v ∈ xs.drop (i * 2), v.oneCell' = true) :
    Calls Try.prog 60 #[.slice (some ⟨b, 0, none⟩) n c, .int .i64 i, .slice (some ⟨vb, 0, none⟩) 1 vc] w fun e w' => ∃ (G : Nat) (Z : List Value), n + 1 ≤ G ∧ G ≤ maxLen ∧ Z.length = (G - i) * 2 ∧ e = .returned (.slice (some ⟨w.heap.size, 0, none⟩) (n + 1) G) ∧
      w'.heap[w.heap.size]? = some (.cells (ti_over (ti_over (xs.take (i * 2) ++ Z).toArray (i * 2) cs) ((i + 1) * 2) (xs.drop (i * 2))) 64 (0, 0)) ∧ w.grownBy w' none := by
  have hus := Try.underlying43
  have hue := Try.underlying64
  obtain ⟨i0, hi0, hz0, hzs, hzb⟩ := info_parts info64
  have hinfo : (Try.prog.info? 64).map (·.size) = some 2 := by rw [hi0]; simp [hzs]
  have hxl : xs.length = n * 2 := by rw [hxs]; simp [hsz]; omega
  have hbw : b < w.heap.size := blk_lt hb
  have hvw : vb < w.heap.size := blk_lt hv
  have hik : i + (n + 1 - i) = n + 1 := by omega
  have hold : (Builtin.firstCells i0.size i (.slice (some ⟨b, 0, none⟩) i c)).run Try.prog w.drew = .ok (xs.take (i * 2)).toArray w.drew := by
    rw [hzs]
    refine run_firstCells_some w.drew 2 i ⟨b, 0, none⟩ i c (xs.take (i * 2)) (by simp [hxl]; omega) (fun j v hj => ?_)
    rw [Addr.add_lit]
    refine (cell_of_row w.drew b _ cur 64 (0, 0) hb).trans ?_
    rw [hxs, List.getElem?_take, List.getElem?_take] at hj
    split at hj
    · split at hj
      · simpa using hj
      · cases hj
    · cases hj
  obtain ⟨G, hG⟩ : ∃ G, G = grownCap w (n + 1) c 64 := ⟨_, rfl⟩
  obtain ⟨Z, hZ⟩ : ∃ Z : List Value, Z = (Builtin.zeroCells (Value.agg #[.int .i64 0, .int .i64 0]).cells (n + 1 - i)).toList ++ (Builtin.zeroCells (Value.agg #[.int .i64 0, .int .i64 0]).cells (G - (n + 1))).toList := ⟨_, rfl⟩
  have hGn : n + 1 ≤ G := by rw [hG]; exact grownCap_ge w _ _ _
  have hGm : G ≤ maxLen := by rw [hG]; exact grownCap_le_maxLen w (n + 1) c 64 (by unfold maxLen; omega)
  have hG63 : G ≤ 9223372036854775807 := by unfold maxLen at hGm; omega
  have hZl : Z.length = (G - i) * 2 := by
    rw [hZ]
    simp [Builtin.zeroCells, Value.cells]
    omega
  obtain ⟨W1, hW1⟩ : ∃ W1, W1 = w.drew.alloc (.cells (xs.take (i * 2) ++ Z).toArray 64) := ⟨_, rfl⟩
  have hrz : ∀ ty, (Builtin.append_ #[43, 3] ty #[.slice (some ⟨b, 0, none⟩) i c, .int .i64 ((n : Int) + 1 - (i : Int))]).run Try.prog w = .ok (.slice (some ⟨w.heap.size, 0, none⟩) (n + 1) G) W1 := fun ty => by
    have h := Lib.run_append_grow_zeros w 43 3 ty 64 i0 _ .i64 .i64 Try.underlying43 Try.underlying3 hi0 hz0 (some ⟨b, 0, none⟩) i c (xs.take (i * 2)) hold (n + 1 - i) (by omega) (by omega) (by omega) (by omega) (by rw [hzb]; omega) (by rw [hzb, hik]; exact growslice_fits (by omega) (by omega))
    rw [hik, ← hG] at h
    rw [show (n : Int) + 1 - (i : Int) = ((n + 1 - i : Nat) : Int) by omega, h, hW1, show (xs.take (i * 2)).toArray ++ Builtin.zeroCells (Value.agg #[.int .i64 0, .int .i64 0]).cells (n + 1 - i) ++ Builtin.zeroCells (Value.agg #[.int .i64 0, .int .i64 0]).cells (G - (n + 1)) = (xs.take (i * 2) ++ Z).toArray from Array.ext' (by rw [hZ]; simp)]
  have hb1 : W1.heap[w.heap.size]? = some (.cells (xs.take (i * 2) ++ Z).toArray 64 (0, 0)) := by rw [hW1]; exact heap_alloc_new w.drew _
  have hB1 : ∀ k, k < w.heap.size → W1.heap[k]? = w.heap[k]? := fun k hk => by rw [hW1]; exact Below.heap_alloc w.drew _ k hk
  have hg1 : w.grownBy W1 none := by rw [hW1]; exact ⟨rfl, rfl, rfl, by simp, fun k hk _ => Below.heap_alloc w.drew _ k hk⟩
  obtain ⟨W2, hW2⟩ : ∃ W2, W2 = W1.setRow w.heap.size (ti_over (xs.take (i * 2) ++ Z).toArray (i * 2) cs) := ⟨_, rfl⟩
  have hrl : ((xs.take (i * 2) ++ Z).toArray).size = G * 2 := by simp [hxl, hZl]; omega
  have hcpA : ∀ o dl dc ty, o = i * 2 → dl = n + 1 - i → (Builtin.copy_ #[43, 43] ty #[.slice (some ⟨w.heap.size, o, none⟩) dl dc, .slice (some ⟨vb, 0, none⟩) 1 vc]).run Try.prog W1 = .ok (goInt (1 : Nat)) W2 := by
    rintro o dl dc ty rfl rfl
    rw [hW2]
    refine ti_run_copy_rows W1 43 43 ty 64 w.heap.size _ (n + 1 - i) dc ⟨vb, 0, none⟩ 1 vc _ 64 2 1 cs hus hinfo hb1 (by simp only [Nat.min_def]; split <;> omega) (by omega) ?_ (by rw [hrl]; omega) h1v
    intro j v hj
    rw [Addr.add_lit]
    refine (cell_of_row W1 vb _ cs.toArray 64 (0, 0) ((hB1 vb hvw).trans hv)).trans ?_
    simpa using hj
  have hb2 : W2.heap[w.heap.size]? = some (.cells (ti_over (xs.take (i * 2) ++ Z).toArray (i * 2) cs) 64 (0, 0)) := by rw [hW2]; exact setRow_heap W1 w.heap.size _ _ _ _ hb1
  have hg2 : W1.grownBy W2 (some w.heap.size) := by rw [hW2]; exact ti_setRow_grown W1 _ _
  have hB2 : ∀ k, k < w.heap.size → W2.heap[k]? = w.heap[k]? := fun k hk => (hg2.block k (Nat.lt_of_lt_of_le hk hg1.size) (by simp; omega)).trans (hB1 k hk)
  obtain ⟨W3, hW3⟩ : ∃ W3, W3 = W2.drew.setRow w.heap.size (ti_over (ti_over (xs.take (i * 2) ++ Z).toArray (i * 2) cs) ((i + 1) * 2) (xs.drop (i * 2))) := ⟨_, rfl⟩
  have hcpB : ∀ o dl so sl dc sc ty, o = (i + 1) * 2 → so = i * 2 → dl = n - i → sl = n - i → (Builtin.copy_ #[43, 43] ty #[.slice (some ⟨w.heap.size, o, none⟩) dl dc, .slice (some ⟨b, so, none⟩) sl sc]).run Try.prog W2.drew = .ok (goInt (n - i : Nat)) W3 := by
    rintro o dl so sl dc sc ty rfl rfl rfl rfl
    rw [hW3]
    refine ti_run_copy_rows W2.drew 43 43 ty 64 w.heap.size _ (n - i) dc ⟨b, i * 2, none⟩ (n - i) sc _ 64 2 (n - i) (xs.drop (i * 2)) hus hinfo hb2 (by simp only [Nat.min_def]; split <;> omega) (by simp [hxl]; omega) ?_ ?_ h1
    · intro j v hj
      rw [Addr.add_lit]
      refine (cell_of_row W2.drew b _ cur 64 (0, 0) ((hB2 b hbw).trans hb)).trans ?_
      rw [hxs, List.getElem?_drop, List.getElem?_take] at hj
      split at hj
      · simpa using hj
      · cases hj
    · rw [ti_over_size _ _ _ (by rw [hrl]; omega), hrl]; simp [hxl]; omega
  have hfin : W3.heap[w.heap.size]? = some (.cells (ti_over (ti_over (xs.take (i * 2) ++ Z).toArray (i * 2) cs) ((i + 1) * 2) (xs.drop (i * 2))) 64 (0, 0)) ∧ w.grownBy W3 none := by
    rw [hW3]
    refine ⟨setRow_heap W2.drew w.heap.size _ _ _ _ hb2, ?_⟩
    have hg3 := ti_setRow_grown W2.drew w.heap.size (ti_over (ti_over (xs.take (i * 2) ++ Z).toArray (i * 2) cs) ((i + 1) * 2) (xs.drop (i * 2)))
    exact ⟨hg3.os.trans (hg2.os.trans hg1.os), hg3.tape.trans (hg2.tape.trans hg1.tape), hg3.output.trans (hg2.output.trans hg1.output), Nat.le_trans hg1.size (Nat.le_trans hg2.size hg3.size), fun k hk _ => (hg3.block k (Nat.lt_of_lt_of_le hk (Nat.le_trans hg1.size hg2.size)) (by simp; omega)).trans (hB2 k hk)⟩
  have END := Aside0.mk (And.intro hGn (And.intro hGm (And.intro hZl hfin)))
  have APP := Aside0.mk hrz
  have CPA := Aside0.mk hcpA
  have CPB := Aside0.mk hcpB
  have hz2 : ¬ ((i : Int) = (n : Int)) := by omega
  have hz3 : (c : Int) < (n : Int) + 1 := by omega
  have hb2' : ¬ (G = i + 1) := by omega
  have hb3' : ¬ (G = i) := by omega
  have hb4 : ¬ (c = i) := by omega
  have hb5 : (i : Int) + 1 ≤ (n : Int) + 1 := by omega
  have hb6 : (i : Int) ≤ (n : Int) + 1 := by omega
  have hb8 : (i : Int) ≤ (n : Int) := by omega
  have htn : ((i : Int) + 1).toNat = i + 1 := by omega
  have hw1 : IntKind.i64.wrap ((i : Int) + 1) = (i : Int) + 1 := by rw [IntKind.wrap_i64]; omega
  have hb7 : (0 : Int) ≤ (i : Int) + 1 := by omega
  clear hrz hcpA hcpB hfin hb1 hb2 hB1 hB2 hg1 hg2 hW1 hW2 hW3 hZ hZl hG hold hik hxl hxs hb hv h1 h1v hcl hsz hrl hGm
  go_enter Try.func60, Try.ntmps60
  go_wp2_with (first
    | ((with_reducible refine gate_builtin (b := .append) (xs := #[.tmp 34, .tmp 39]) rfl ?_); refine ti_wpList_append_is _ rfl (.tmp 34) (.tmp 39) 43 3 rfl (.slice (some ⟨b, 0, none⟩) i c) (.int .i64 ((n : Int) + 1 - (i : Int))) (by rfl) (by rfl) (APP.out _) ?_)
    | ((with_reducible refine gate_builtin (b := .copy) (xs := #[.tmp 43, .tmp 44]) rfl ?_); refine ti_wpList_copy_is _ rfl (.tmp 43) (.tmp 44) 43 43 rfl (.slice (some ⟨w.heap.size, i * 2, none⟩) (n + 1 - i) (G - i)) (.slice (some ⟨vb, 0, none⟩) 1 vc) (by rfl) (by rfl) (CPA.out _ _ _ _ rfl rfl) ?_))
  go_region_law (refine ti_step_copy_is rfl (.tmp 50) (.tmp 53) 43 43 rfl (.slice (some ⟨w.heap.size, (i + 1) * 2, none⟩) (n - i) (G - (i + 1))) (.slice (some ⟨b, i * 2, none⟩) (n - i) (c - i)) (by simp [Act.eval, Act.put]) (by simp [Act.eval, Act.put]) (CPB.out _ _ _ _ _ _ _ rfl rfl rfl rfl) ?_)
  go_wp2
  go_ret
  exact ⟨G, Z, END.out.1, END.out.2.1, END.out.2.2.1, rfl, END.out.2.2.2⟩
set_option maxHeartbeats 4000000 in
set_option maxRecDepth 100000 in
theorem ti_insert_end (v : Value) (n vb vc : Nat) (xs cs : List Value) (w : World) (base : Nat) (A : Option Addr) (c : Nat) (hv0 : v = .slice A n c) (hown : w.ownsRow base 64 2 v n xs) (hbase : base ≤ w.heap.size) (hbig : (n + 1) * 16 ≤ 140737488355328)
    (hcl : cs.length = 2) (h1v : ∀ u ∈ cs, u.oneCell' = true) (hv : w.heap[vb]? = some (.cells cs.toArray 64 (0, 0))) :
    Calls Try.prog 60 #[v, .int .i64 n, .slice (some ⟨vb, 0, none⟩) 1 vc] w fun e w' => ∃ v', e = .returned v' ∧ w'.ownsRow base 64 2 v' (n + 1) (xs ++ cs) ∧ w.grownBy w' v.ownBlock ∧ (v'.ownBlock = v.ownBlock ∨ v'.ownBlock = some w.heap.size) := by
  have hus := Try.underlying43
  have hue := Try.underlying64
  obtain ⟨i0, hi0, hz0, hzs, hzb⟩ := info_parts info64
  have hnc : n ≤ c := by subst hv0; exact own_le hown
  have hm : c ≤ maxLen := by
    subst hv0
    rcases hown.2 with ⟨h, h0⟩ | ⟨g, cap, cur, h, _, _, _, h4, _⟩
    · injection h with _ _ h; rw [h]; unfold maxLen; omega
    · injection h with _ _ h; rw [h]; exact h4
  have hAn : A = none → c = 0 := by
    subst hv0
    rintro rfl
    rcases hown.2 with ⟨h, h0⟩ | ⟨g, cap, cur, h, _, _, _, h4, _⟩
    · injection h
    · injection h with h; cases h
  unfold maxLen at hm
  obtain ⟨v', w', hr, h2, h3, h4, h5⟩ := run_append_own_at (P := Try.prog) (w := w) base 43 43 64 i0 _ 2 16 Try.underlying43 hi0 hz0 hzs hzb rfl (by decide) v n xs hown ⟨vb, 0, none⟩ 1 vc cs (by omega) (fun j u hj => by
    rw [Addr.add_lit]
    refine (cell_of_row w vb _ cs.toArray 64 (0, 0) hv).trans ?_
    simpa using hj) h1v (by unfold maxLen; omega) hbig hbase
  have END := Aside0.mk (And.intro h2 (And.intro h3 h5))
  have RUN := Aside0.mk hr
  clear h2 h3 h4 h5 hr hown hv h1v hcl
  subst hv0
  have hz2 : ((n : Int) == (n : Int)) = true := by simp
  go_enter Try.func60, Try.ntmps60
  cases A with
  | none =>
    have h0 := hAn rfl
    subst h0
    obtain rfl : n = 0 := by omega
    go_wp2_with ((with_reducible refine gate_builtin (b := .append) (xs := #[.tmp 23, .tmp 24]) rfl ?_); refine ti_wpList_append_is _ rfl (.tmp 23) (.tmp 24) 43 43 rfl (.slice none 0 0) (.slice (some ⟨vb, 0, none⟩) 1 vc) (by rfl) (by rfl) RUN.out ?_)
    go_ret
    exact ⟨v', rfl, END.out⟩
  | some ad =>
    obtain ⟨ab, ao, asp⟩ := ad
    go_wp2_with ((with_reducible refine gate_builtin (b := .append) (xs := #[.tmp 23, .tmp 24]) rfl ?_); refine ti_wpList_append_is _ rfl (.tmp 23) (.tmp 24) 43 43 rfl (.slice (some ⟨ab, ao, asp⟩) n c) (.slice (some ⟨vb, 0, none⟩) 1 vc) (by rfl) (by rfl) RUN.out ?_)
    all_goals (go_ret; exact ⟨v', rfl, END.out⟩)
theorem ti_insert_own (v : Value) (n i vb vc : Nat) (xs cs : List Value) (w : World) (base : Nat) (hown : w.ownsRow base 64 2 v n xs) (hi : i ≤ n) (hbase : base ≤ w.heap.size) (hbig : (n + 1) * 16 ≤ 140737488355328) (hvb : v.ownBlock ≠ some vb)
    (hcl : cs.length = 2) (h1v : ∀ u ∈ cs, u.oneCell' = true) (h1 : ∀ u ∈ xs, u.oneCell' = true) (hv : w.heap[vb]? = some (.cells cs.toArray 64 (0, 0))) :
    Calls Try.prog 60 #[v, .int .i64 i, .slice (some ⟨vb, 0, none⟩) 1 vc] w fun e w' => ∃ v', e = .returned v' ∧ w'.ownsRow base 64 2 v' (n + 1) (xs.take (i * 2) ++ (cs ++ xs.drop (i * 2))) ∧ w.grownBy w' v.ownBlock ∧ (v'.ownBlock = v.ownBlock ∨ v'.ownBlock = some w.heap.size) := by
  by_cases hin : i = n
  · subst hin
    have hxl := hown.1
    have e1 : xs.take (i * 2) = xs := List.take_of_length_le (by omega)
    have e2 : xs.drop (i * 2) = [] := List.drop_of_length_le (by omega)
    rw [e1, e2, List.append_nil]
    obtain ⟨A, c, rfl⟩ := own_slice hown
    exact ti_insert_end _ i vb vc xs cs w base A c rfl hown hbase hbig hcl h1v hv
  · have hlt : i < n := by omega
    have hxl := hown.1
    rcases hown.2 with ⟨rfl, h0⟩ | ⟨g, c, cur, rfl, hg, hb, hnc, hcm, hsz, hxs⟩
    · omega
    · have hne : vb ≠ g := fun e => hvb (by simp [Value.ownBlock, e])
      by_cases hroom : n + 1 ≤ c
      · refine (ti_insert_room g n c i vb vc cs cur w hlt hroom hcm hne hsz hb hcl h1v hv (fun u hu => by rw [hxs] at hu; exact h1 u (List.mem_of_mem_drop hu))).mono ?_
        rintro e w' ⟨rfl, hw, hgr⟩
        refine ⟨_, rfl, ⟨by simp [hxl, hcl]; omega, .inr ⟨g, c, _, rfl, hg, hw, hroom, hcm, ?_, ?_⟩⟩, hgr, .inl rfl⟩
        · have hdl : ((cur.toList.take (n * 2)).drop (i * 2)).length = (n - i) * 2 := by simp [hsz]; omega
          rw [ti_over_size _ _ _ (by rw [ti_over_size _ _ _ (by omega)]; omega), ti_over_size _ _ _ (by omega), hsz]
        · have := ti_take_room cur.toList cs n i hlt (by simp [hsz]; omega) hcl
          rw [hxs] at this
          rw [hxs]
          simpa using this
      · refine (ti_insert_grow g n c i vb vc xs cs cur w hlt hnc (by omega) hbig hxs.symm hsz hb hcl h1v hv (fun u hu => h1 u (List.mem_of_mem_drop hu))).mono ?_
        rintro e w' ⟨G, Z, hG, hGm, hZ, rfl, hw, hgr⟩
        refine ⟨_, rfl, ⟨by simp [hxl, hcl]; omega, .inr ⟨w.heap.size, G, _, rfl, hbase, hw, hG, hGm, ?_, ?_⟩⟩, ti_grown_any hgr _, .inr rfl⟩
        · have hrl : ((xs.take (i * 2) ++ Z).toArray).size = G * 2 := by simp [hxl, hZ]; omega
          have hdl : (xs.drop (i * 2)).length = (n - i) * 2 := by simp [hxl]; omega
          rw [ti_over_size _ _ _ (by rw [ti_over_size _ _ _ (by omega)]; omega), ti_over_size _ _ _ (by omega), hrl]
        · exact ti_take_grow xs Z cs n i hlt hxl (by rw [hZ]; omega) hcl
theorem ti_reps_insert {α : Type} {R : α → List Value → Prop} {size : Nat} {ps : List α} {cs c : List Value} {p : α} (h : Reps R size ps cs) (hp : R p c) (hc : c.length = size) (i : Nat) (hi : i ≤ ps.length) : Reps R size (ps.take i ++ p :: ps.drop i) (cs.take (i * size) ++ (c ++ cs.drop (i * size))) := by
  have h1 := Kd.reps_take h hi
  have h2 := Kd.reps_drop (m := i) h
  have h3 : Reps R size [p] c := by simpa using Reps.snoc (Reps.none R size) hp hc
  have h4 := Kd.reps_append h1 (Kd.reps_append h3 h2)
  simpa using h4
/-- slices.Insert of one element into a row of the call's own. -/
theorem ti_insert_calls (v : Value) (l : List S64) (x : S64) (i vb vc : Nat) (w : World) (base : Nat) (HO : Kd.R k64 64 w base (fun _ => True) v l) (hi : i ≤ l.length) (hbase : base ≤ w.heap.size) (hbig : (l.length + 1) * 16 ≤ 140737488355328) (hvb : v.ownBlock ≠ some vb)
    (hv : w.heap[vb]? = some (.cells #[.int .i64 x.f0, .int .i64 x.f1] 64 (0, 0))) :
    Calls Try.prog 60 #[v, .int .i64 i, .slice (some ⟨vb, 0, none⟩) 1 vc] w fun e w' => ∃ v', e = .returned v' ∧ Kd.R k64 64 w' base (fun _ => True) v' (l.take i ++ x :: l.drop i) ∧ w.grownBy w' v.ownBlock ∧ (v'.ownBlock = v.ownBlock ∨ v'.ownBlock = some w.heap.size) := by
  obtain ⟨_, inner, hown, hr⟩ := HO
  have h1 : ∀ u ∈ inner, u.oneCell' = true := Kd.reps_one hr (by decide) (fun p c h u hu => k64.K_one (k64.K_of_M h) u hu)
  refine (ti_insert_own v l.length i vb vc inner [.int .i64 x.f0, .int .i64 x.f1] w base hown hi hbase hbig hvb rfl (by simp [Value.oneCell']) h1 hv).mono ?_
  rintro e w' ⟨v', rfl, h2, h3, h4⟩
  refine ⟨v', rfl, ⟨fun _ _ => trivial, _, ?_, ti_reps_insert (R := k64.M w' base (fun k => True ∧ some k ≠ v'.ownBlock)) (hr.imp_ (fun q c h => ?_)) (k64_mkM _ _ _ x) rfl i hi⟩, h3, h4⟩
  · rw [show (l.take i ++ x :: l.drop i).length = l.length + 1 by simp; omega]
    exact h2
  · have e := k64_openM h
    subst e
    exact k64_mkM _ _ _ q
end Go.Proofs.Ytldpacphackdjaa.Print
