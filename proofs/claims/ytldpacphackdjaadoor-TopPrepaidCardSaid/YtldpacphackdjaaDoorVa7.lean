/- Parts of the proofs of layer 28's laws, joined in one file by a program of the session; each part begins with its own sentence. -/
import Derived.Test.YtldpacphackdjaaDoorVaK0
import Derived.Lib.AppendZerosOnto
import Derived.Lib.Overlaps
import Derived.Laws.Externs
import Derived.Laws.IdiomCopy
import Derived.Laws.CopyRow
import Derived.Deep.RegionLaw
import Derived.Test.YtldpacphackdjaaDoorVaHTrim
import Derived.Test.YtldpacphackdjaaDoorVaF29
import Derived.Test.YtldpacphackdjaaDoorVa2
import Derived.Test.YtldpacphackdjaaDoorVaSq
import Derived.Test.YtldpacphackdjaaDoorVa3
/- That slices.Insert of one element answers the list with the element at its place, in a row of the call's own, whether there is room or not. -/
namespace Go.Proofs.YtldpacphackdjaaDoor.Print
open Go.RowKit Go.Proofs.YtldpacphackdjaaDoorW.PrintWords Go.Proofs.YtldpacphackdjaaDoorW.PrintLast Go.Proofs.YtldpacphackdjaaDoorW.PrintMore
set_option linter.unusedVariables false
set_option linter.unusedSimpArgs false

theorem pi_wpList_copy_is {P : Program} (w : World) {ops : Array Oper} {rest : List Oper} {o : Oper} {a : Act} {Q : Exit → Act → World → Prop} (hgd : o.guard = none) (d s : Operand) (t t' : TypeId)
    (ho : o.op = .call { callee := .builtin .copy, args := #[d, s], argTypes := #[t, t'] }) (v u : Value) (hd : a.eval d = v) (hs : a.eval s = u) {v' : Value} {w' : World}
    (hr : (Builtin.copy_ #[t, t'] o.type #[v, u]).run P w = .ok v' w') (h : wpList P ops Q rest (a.put o.dst v') w') : wpList P ops Q (o :: rest) a w :=
  wpList_plain hgd fun _ hK => by
    unfold Oper.wp execOp
    simp only [ho, resolve, invoke, builtin, Sem.run_bind, Sem.run_pure, Result.andThen_ok, List.map_toArray, List.map_cons, List.map_nil, hd, hs, hr]
    exact hK _ _ h
theorem pi_step_copy_is {P : Program} {ops : Array Oper} {o : Oper} {a : Act} {w : World} {K : Act → World → Prop} {Q : Exit → Act → World → Prop} {E : Prop}
    (hg : o.guard = none) (d x : Operand) (dT sT : TypeId) (hop : o.op = Op.call { callee := Callee.builtin Builtin.copy, args := #[d, x], argTypes := #[dT, sT] })
    (v u : Value) (hd : a.eval d = v) (hx : a.eval x = u) {v' : Value} {w' : World} (hr : (Builtin.copy_ #[dT, sT] o.type #[v, u]).run P w = .ok v' w') (hK : K (a.put o.dst v') w') :
    if Region.wanted o (yielded ops a.tmps) = true then Oper.wp P o a w K Q else E := by
  have hw : Region.wanted o (yielded ops a.tmps) = true := by simp [Region.wanted, hg]
  rw [if_pos hw]
  unfold Oper.wp
  simp [execOp, hop, resolve, invoke, builtin, hd, hx, hr, Result.andThen]
  exact hK
theorem pi_wpList_append_is {P : Program} (w : World) {ops : Array Oper} {rest : List Oper} {o : Oper} {a : Act} {Q : Exit → Act → World → Prop} (hgd : o.guard = none) (d s : Operand) (t t' : TypeId)
    (ho : o.op = .call { callee := .builtin .append, args := #[d, s], argTypes := #[t, t'] }) (v u : Value) (hd : a.eval d = v) (hs : a.eval s = u) {v' : Value} {w' : World}
    (hr : (Builtin.append_ #[t, t'] o.type #[v, u]).run P w = .ok v' w') (h : wpList P ops Q rest (a.put o.dst v') w') : wpList P ops Q (o :: rest) a w :=
  wpList_plain hgd fun _ hK => by
    unfold Oper.wp execOp
    simp only [ho, resolve, invoke, builtin, Sem.run_bind, Sem.run_pure, Result.andThen_ok, List.map_toArray, List.map_cons, List.map_nil, hd, hs, hr]
    exact hK _ _ h
/-- A row's cells over another part of a row that is known whole. -/
def pi_over (cur : Array Value) (o : Nat) (cs : List Value) : Array Value := (cur.toList.take o ++ cs ++ cur.toList.drop (o + cs.length)).toArray
theorem pi_over_size (cur : Array Value) (o : Nat) (cs : List Value) (h : o + cs.length ≤ cur.size) : (pi_over cur o cs).size = cur.size := by
  simp [pi_over]
  omega
theorem pi_over_list (cur : Array Value) (o : Nat) (cs : List Value) : (pi_over cur o cs).toList = cur.toList.take o ++ cs ++ cur.toList.drop (o + cs.length) := by simp [pi_over]
theorem pi_run_copy_rows {P : Program} (w : World) (dT sT ty elem : TypeId) (g o dLen dCap : Nat) (a : Addr) (sLen sCap : Nat) (cur : Array Value) (t : TypeId) (sz k : Nat) (cs : List Value)
    (hu : P.underlying dT = some (.slice elem)) (hs : (P.info? elem).map (·.size) = some sz)
    (hg : w.heap[g]? = some (.cells cur t (0, 0))) (hk : Nat.min sLen dLen = k) (hn : cs.length = k * sz)
    (hsrc : ∀ j v, cs[j]? = some v → w.cell? (a.add j) = some v) (hfit : o + cs.length ≤ cur.size) (h1 : ∀ v ∈ cs, v.oneCell' = true) :
    (Builtin.copy_ #[dT, sT] ty #[.slice (some ⟨g, o, none⟩) dLen dCap, .slice (some a) sLen sCap]).run P w = .ok (goInt k) (w.setRow g (pi_over cur o cs)) := by
  have hl := run_loadCells_list (P := P) w a cs hsrc
  have hst := run_storeCells_at P g o t cs 0 cur w hg (by simpa using hfit) h1
  cases hq : P.info? elem with
  | none => simp [hq] at hs
  | some i =>
    have hi : i.size = sz := by simpa [hq] using hs
    simp [Builtin.copy_, run_underlying hu, Builtin.lenOf, Builtin.firstCells, sizeOf, typeInfo, hq, hi, hk, ← hn, hl, hst, pi_over]
theorem pi_setRow_grown (w : World) (g : Nat) (cs : Array Value) : w.grownBy (w.setRow g cs) (some g) :=
  ⟨rfl, rfl, rfl, by simp [World.setRow], fun k hk hne => setRow_other w g k cs (by intro h; exact hne (by rw [h]))⟩
theorem pi_grown_trans {w w1 w2 : World} {r : Option Nat} (h : w.grownBy w1 r) (k : w1.grownBy w2 r) : w.grownBy w2 r :=
  ⟨k.os.trans h.os, k.tape.trans h.tape, k.output.trans h.output, Nat.le_trans h.size k.size, fun i hi hne => (k.block i (Nat.lt_of_lt_of_le hi h.size) hne).trans (h.block i hi hne)⟩
theorem pi_drew_grown (w : World) (r : Option Nat) : w.grownBy w.drew r := ⟨rfl, rfl, rfl, Nat.le_refl _, fun _ _ _ => rfl⟩
theorem pi_grown_any {w w1 : World} (h : w.grownBy w1 none) (r : Option Nat) : w.grownBy w1 r := ⟨h.os, h.tape, h.output, h.size, fun i hi _ => h.block i hi (by simp)⟩

set_option maxHeartbeats 4000000 in
set_option maxRecDepth 100000 in
theorem pi_insert_room (b n c i vb vc : Nat) (cs : List Value) (cur : Array Value) (w : World) (hi : i < n) (hroom : n + 1 ≤ c) (hc63 : c ≤ maxLen) (hvb : vb ≠ b) (hsz : cur.size = c * 3)
    (hb : w.heap[b]? = some (.cells cur 54 (0, 0))) (hcl : cs.length = 3) (h1v : ∀ v ∈ cs, v.oneCell' = true) (hv : w.heap[vb]? = some (.cells cs.toArray 54 (0, 0))) (h1 : ∀ v ∈ (cur.toList.take (n * 3)).drop (i * 3), v.oneCell' = true) :
    Calls Tryd.prog 40 #[.slice (some ⟨b, 0, none⟩) n c, .int .i64 i, .slice (some ⟨vb, 0, none⟩) 1 vc] w fun e w' => e = .returned (.slice (some ⟨b, 0, none⟩) (n + 1) c) ∧
      w'.heap[b]? = some (.cells (pi_over (pi_over cur ((i + 1) * 3) ((cur.toList.take (n * 3)).drop (i * 3))) (i * 3) cs) 54 (0, 0)) ∧ w.grownBy w' (some b) := by
  have hus := Tryd.underlying29
  have hue := Tryd.underlying54
  unfold maxLen at hc63
  have hinfo : (Tryd.prog.info? 54).map (·.size) = some 3 := by kernel_rfl
  have hdl : ((cur.toList.take (n * 3)).drop (i * 3)).length = (n - i) * 3 := by simp [hsz]; omega
  obtain ⟨mid, hmid⟩ : ∃ mid, mid = (cur.toList.take (n * 3)).drop (i * 3) := ⟨_, rfl⟩
  rw [← hmid] at hdl h1 ⊢
  obtain ⟨W1, hW1⟩ : ∃ W1, W1 = w.drew.setRow b (pi_over cur ((i + 1) * 3) mid) := ⟨_, rfl⟩
  have hb1 : W1.heap[b]? = some (.cells (pi_over cur ((i + 1) * 3) mid) 54 (0, 0)) := by rw [hW1]; exact setRow_heap w.drew b _ _ _ _ hb
  have hv1 : W1.heap[vb]? = some (.cells cs.toArray 54 (0, 0)) := by rw [hW1]; exact (setRow_other w.drew b vb _ hvb).trans hv
  have hov : ∀ lb cb o, (callFunc 68 #[.slice (some ⟨vb, 0, none⟩) 1 vc, .slice (some ⟨b, o, none⟩) lb cb]).run Tryd.prog w = .ok (.value (.bool false)) w := fun lb cb o => by
    rw [run_callFunc_extern Tryd.func68 (by kernel_rfl) (by kernel_rfl) (by kernel_rfl) (e := Extern.SlicesOverlaps.overlaps #[29, 29] #[4]) (by kernel_rfl),
      Lib.run_overlaps_apart w 29 4 54 Tryd.underlying29 3 (fun w => by kernel_rfl) ⟨vb, 0, none⟩ ⟨b, o, none⟩ 1 vc lb cb hvb 54 54 cs.toArray.size cur.size (by simp [World.shape?, hv]) (by simp [World.shape?, hb]) (by omega) (by simp [World.frozen?, hv]) (by simp [World.frozen?, hv])]
    rfl
  have hcp1 : ∀ o dl so sl dc sc ty, o = (i + 1) * 3 → so = i * 3 → dl = n - i → sl = n + 1 - i → (Builtin.copy_ #[29, 29] ty #[.slice (some ⟨b, o, none⟩) dl dc, .slice (some ⟨b, so, none⟩) sl sc]).run Tryd.prog w.drew = .ok (goInt (n - i : Nat)) W1 := by
    rintro o dl so sl dc sc ty rfl rfl rfl rfl
    rw [hW1]
    refine pi_run_copy_rows w.drew 29 29 ty 54 b _ (n - i) dc ⟨b, i * 3, none⟩ (n + 1 - i) sc cur 54 3 (n - i) mid hus hinfo hb (by simp only [Nat.min_def]; split <;> omega) hdl ?_ (by rw [hdl]; omega) h1
    intro j v hj
    rw [Addr.add_lit]
    refine (cell_of_row w.drew b _ cur 54 (0, 0) hb).trans ?_
    rw [hmid, List.getElem?_drop, List.getElem?_take] at hj
    split at hj
    · simpa using hj
    · cases hj
  have hcp2 : ∀ o dl dc ty, o = i * 3 → dl = n + 1 - i → (Builtin.copy_ #[29, 29] ty #[.slice (some ⟨b, o, none⟩) dl dc, .slice (some ⟨vb, 0, none⟩) 1 vc]).run Tryd.prog W1 = .ok (goInt (1 : Nat)) (W1.setRow b (pi_over (pi_over cur ((i + 1) * 3) mid) (i * 3) cs)) := by
    rintro o dl dc ty rfl rfl
    refine pi_run_copy_rows W1 29 29 ty 54 b _ (n + 1 - i) dc ⟨vb, 0, none⟩ 1 vc _ 54 3 1 cs hus hinfo hb1 (by simp only [Nat.min_def]; split <;> omega) (by omega) ?_ ?_ h1v
    · intro j v hj
      rw [Addr.add_lit]
      refine (cell_of_row W1 vb _ cs.toArray 54 (0, 0) hv1).trans ?_
      simpa using hj
    · rw [pi_over_size _ _ _ (by rw [hdl]; omega)]; omega
  have hend : W1.setRow b (pi_over (pi_over cur ((i + 1) * 3) mid) (i * 3) cs) = W1.setRow b (pi_over (pi_over cur ((i + 1) * 3) mid) (i * 3) cs) → ((W1.setRow b (pi_over (pi_over cur ((i + 1) * 3) mid) (i * 3) cs)).heap[b]? = some (.cells (pi_over (pi_over cur ((i + 1) * 3) mid) (i * 3) cs) 54 (0, 0)) ∧ w.grownBy (W1.setRow b (pi_over (pi_over cur ((i + 1) * 3) mid) (i * 3) cs)) (some b)) := fun _ =>
    ⟨setRow_heap W1 b _ _ _ _ hb1, pi_grown_trans (by rw [hW1]; exact pi_grown_trans (pi_drew_grown w _) (pi_setRow_grown w.drew b _)) (pi_setRow_grown W1 b _)⟩
  obtain ⟨W2, hW2⟩ : ∃ W2, W2 = W1.setRow b (pi_over (pi_over cur ((i + 1) * 3) mid) (i * 3) cs) := ⟨_, rfl⟩
  rw [← hW2] at hend hcp2
  have END := Aside0.mk (hend rfl)
  have CP1 := Aside0.mk hcp1
  have CP2 := Aside0.mk hcp2
  have hz2 : ¬ ((i : Int) = (n : Int)) := by omega
  have hb2 : ¬ (c = i + 1) := by omega
  have hb4 : ¬ (c = i) := by omega
  have hb5 : (i : Int) + 1 ≤ (n : Int) + 1 := by omega
  have hb6 : (i : Int) ≤ (n : Int) + 1 := by omega
  have htn : ((i : Int) + 1).toNat = i + 1 := by omega
  have hw1 : IntKind.i64.wrap ((i : Int) + 1) = (i : Int) + 1 := by rw [IntKind.wrap_i64]; omega
  have hb7 : (0 : Int) ≤ (i : Int) + 1 := by omega
  clear hcp1 hcp2 hend hb1 hv1 hb hv hdl h1 h1v hcl hsz hmid hW1 hW2
  go_enter Tryd.func40, Tryd.ntmps40
  go_wp2_with (simp only [hov])
  go_region_law (refine pi_step_copy_is rfl (.tmp 73) (.tmp 76) 29 29 rfl (.slice (some ⟨b, (i + 1) * 3, none⟩) (n - i) (c - (i + 1))) (.slice (some ⟨b, i * 3, none⟩) (n + 1 - i) (c - i)) (by simp [Act.eval, Act.put]) (by simp [Act.eval, Act.put]) (CP1.out _ _ _ _ _ _ _ rfl rfl rfl rfl) ?_)
  go_wp2_with ((with_reducible refine gate_builtin (b := .copy) (xs := #[.tmp 80, .tmp 81]) rfl ?_); refine pi_wpList_copy_is _ rfl (.tmp 80) (.tmp 81) 29 29 rfl (.slice (some ⟨b, i * 3, none⟩) (n + 1 - i) (c - i)) (.slice (some ⟨vb, 0, none⟩) 1 vc) (by rfl) (by rfl) (CP2.out _ _ _ _ rfl rfl) ?_)
  go_ret
  exact ⟨rfl, END.out⟩
theorem pi_take_room (L cs : List Value) (n i : Nat) (hi : i < n) (hn : (n + 1) * 3 ≤ L.length) (hcl : cs.length = 3) :
    (pi_over (pi_over L.toArray ((i + 1) * 3) ((L.take (n * 3)).drop (i * 3))) (i * 3) cs).toList.take ((n + 1) * 3) = (L.take (n * 3)).take (i * 3) ++ (cs ++ (L.take (n * 3)).drop (i * 3)) := by
  obtain ⟨mid, hmid⟩ : ∃ mid, mid = (L.take (n * 3)).drop (i * 3) := ⟨_, rfl⟩
  have hml : mid.length = (n - i) * 3 := by rw [hmid]; simp; omega
  rw [← hmid, pi_over_list, pi_over_list]
  have e0 : (L.toArray).toList = L := rfl
  rw [e0]
  have e1 : (L.take ((i + 1) * 3) ++ mid ++ L.drop ((i + 1) * 3 + mid.length)).take (i * 3) = (L.take (n * 3)).take (i * 3) := by
    rw [List.append_assoc, List.take_append_of_le_length (by simp; omega), List.take_take, List.take_take]
    congr 1
    omega
  have e2 : (L.take ((i + 1) * 3) ++ mid ++ L.drop ((i + 1) * 3 + mid.length)).drop (i * 3 + cs.length) = mid ++ L.drop ((i + 1) * 3 + mid.length) := by
    rw [List.append_assoc]
    exact List.drop_left' (by simp; omega)
  rw [e1, e2]
  have e3 : (L.take (n * 3)).take (i * 3) ++ cs ++ (mid ++ L.drop ((i + 1) * 3 + mid.length)) = ((L.take (n * 3)).take (i * 3) ++ (cs ++ mid)) ++ L.drop ((i + 1) * 3 + mid.length) := by simp only [List.append_assoc]
  rw [e3]
  exact List.take_left' (by simp [hml, hcl]; omega)
theorem pi_take_grow (xs Z cs : List Value) (n i : Nat) (hi : i < n) (hxl : xs.length = n * 3) (hz : (n + 1 - i) * 3 ≤ Z.length) (hcl : cs.length = 3) :
    (pi_over (pi_over (xs.take (i * 3) ++ Z).toArray (i * 3) cs) ((i + 1) * 3) (xs.drop (i * 3))).toList.take ((n + 1) * 3) = xs.take (i * 3) ++ (cs ++ xs.drop (i * 3)) := by
  obtain ⟨mid, hmid⟩ : ∃ mid, mid = xs.drop (i * 3) := ⟨_, rfl⟩
  have hml : mid.length = (n - i) * 3 := by rw [hmid]; simp [hxl]; omega
  obtain ⟨lo, hlo⟩ : ∃ lo, lo = xs.take (i * 3) := ⟨_, rfl⟩
  have hll : lo.length = i * 3 := by rw [hlo]; simp [hxl]; omega
  rw [← hmid, ← hlo, pi_over_list, pi_over_list]
  have e0 : ((lo ++ Z).toArray).toList = lo ++ Z := rfl
  rw [e0]
  have e1 : (lo ++ Z).take (i * 3) = lo := List.take_left' hll
  rw [e1]
  have e2 : (lo ++ cs ++ (lo ++ Z).drop (i * 3 + cs.length)).take ((i + 1) * 3) = lo ++ cs := List.take_left' (by simp [hll, hcl]; omega)
  rw [e2]
  have e3 : lo ++ cs ++ mid ++ (lo ++ cs ++ (lo ++ Z).drop (i * 3 + cs.length)).drop ((i + 1) * 3 + mid.length) = (lo ++ (cs ++ mid)) ++ (lo ++ cs ++ (lo ++ Z).drop (i * 3 + cs.length)).drop ((i + 1) * 3 + mid.length) := by simp only [List.append_assoc]
  rw [e3]
  exact List.take_left' (by simp [hml, hcl, hll]; omega)
set_option maxHeartbeats 4000000 in
set_option maxRecDepth 100000 in
theorem pi_insert_grow (b n c i vb vc : Nat) (xs cs : List Value) (cur : Array Value) (w : World) (hi : i < n) (hnc : n ≤ c) (hroom : c < n + 1) (hbig : (n + 1) * 24 ≤ 140737488355328) (hxs : xs = cur.toList.take (n * 3)) (hsz : cur.size = c * 3)
    (hb : w.heap[b]? = some (.cells cur 54 (0, 0))) (hcl : cs.length = 3) (h1v : ∀ v ∈ cs, v.oneCell' = true) (hv : w.heap[vb]? = some (.cells cs.toArray 54 (0, 0))) (h1 : ∀ v ∈ xs.drop (i * 3), v.oneCell' = true) :
    Calls Tryd.prog 40 #[.slice (some ⟨b, 0, none⟩) n c, .int .i64 i, .slice (some ⟨vb, 0, none⟩) 1 vc] w fun e w' => ∃ (G : Nat) (Z : List Value), n + 1 ≤ G ∧ G ≤ maxLen ∧ Z.length = (G - i) * 3 ∧ e = .returned (.slice (some ⟨w.heap.size, 0, none⟩) (n + 1) G) ∧
      w'.heap[w.heap.size]? = some (.cells (pi_over (pi_over (xs.take (i * 3) ++ Z).toArray (i * 3) cs) ((i + 1) * 3) (xs.drop (i * 3))) 54 (0, 0)) ∧ w.grownBy w' none := by
  have hus := Tryd.underlying29
  have hue := Tryd.underlying54
  obtain ⟨i0, hi0, hz0, hzs, hzb⟩ := info_parts info54
  have hinfo : (Tryd.prog.info? 54).map (·.size) = some 3 := by rw [hi0]; simp [hzs]
  have hxl : xs.length = n * 3 := by rw [hxs]; simp [hsz]; omega
  have hbw : b < w.heap.size := blk_lt hb
  have hvw : vb < w.heap.size := blk_lt hv
  have hik : i + (n + 1 - i) = n + 1 := by omega
  have hold : (Builtin.firstCells i0.size i (.slice (some ⟨b, 0, none⟩) i c)).run Tryd.prog w.drew = .ok (xs.take (i * 3)).toArray w.drew := by
    rw [hzs]
    refine run_firstCells_some w.drew 3 i ⟨b, 0, none⟩ i c (xs.take (i * 3)) (by simp [hxl]; omega) (fun j v hj => ?_)
    rw [Addr.add_lit]
    refine (cell_of_row w.drew b _ cur 54 (0, 0) hb).trans ?_
    rw [hxs, List.getElem?_take, List.getElem?_take] at hj
    split at hj
    · split at hj
      · simpa using hj
      · cases hj
    · cases hj
  obtain ⟨G, hG⟩ : ∃ G, G = grownCap w (n + 1) c 54 := ⟨_, rfl⟩
  obtain ⟨Z, hZ⟩ : ∃ Z : List Value, Z = (Builtin.zeroCells (Value.agg #[.int .i64 0, .int .i64 0, .int .i64 0]).cells (n + 1 - i)).toList ++ (Builtin.zeroCells (Value.agg #[.int .i64 0, .int .i64 0, .int .i64 0]).cells (G - (n + 1))).toList := ⟨_, rfl⟩
  have hGn : n + 1 ≤ G := by rw [hG]; exact grownCap_ge w _ _ _
  have hGm : G ≤ maxLen := by rw [hG]; exact grownCap_le_maxLen w (n + 1) c 54 (by unfold maxLen; omega)
  have hG63 : G ≤ 9223372036854775807 := by unfold maxLen at hGm; omega
  have hZl : Z.length = (G - i) * 3 := by
    rw [hZ]
    simp [Builtin.zeroCells, Value.cells]
    omega
  obtain ⟨W1, hW1⟩ : ∃ W1, W1 = w.drew.alloc (.cells (xs.take (i * 3) ++ Z).toArray 54) := ⟨_, rfl⟩
  have hrz : ∀ ty, (Builtin.append_ #[29, 3] ty #[.slice (some ⟨b, 0, none⟩) i c, .int .i64 ((n : Int) + 1 - (i : Int))]).run Tryd.prog w = .ok (.slice (some ⟨w.heap.size, 0, none⟩) (n + 1) G) W1 := fun ty => by
    have h := Lib.run_append_grow_zeros w 29 3 ty 54 i0 _ .i64 .i64 Tryd.underlying29 Tryd.underlying3 hi0 hz0 (some ⟨b, 0, none⟩) i c (xs.take (i * 3)) hold (n + 1 - i) (by omega) (by omega) (by omega) (by omega) (by rw [hzb]; omega) (by rw [hzb, hik]; exact growslice_fits (by omega) (by omega))
    rw [hik, ← hG] at h
    rw [show (n : Int) + 1 - (i : Int) = ((n + 1 - i : Nat) : Int) by omega, h, hW1, show (xs.take (i * 3)).toArray ++ Builtin.zeroCells (Value.agg #[.int .i64 0, .int .i64 0, .int .i64 0]).cells (n + 1 - i) ++ Builtin.zeroCells (Value.agg #[.int .i64 0, .int .i64 0, .int .i64 0]).cells (G - (n + 1)) = (xs.take (i * 3) ++ Z).toArray from Array.ext' (by rw [hZ]; simp)]
  have hb1 : W1.heap[w.heap.size]? = some (.cells (xs.take (i * 3) ++ Z).toArray 54 (0, 0)) := by rw [hW1]; exact heap_alloc_new w.drew _
  have hB1 : ∀ k, k < w.heap.size → W1.heap[k]? = w.heap[k]? := fun k hk => by rw [hW1]; exact Below.heap_alloc w.drew _ k hk
  have hg1 : w.grownBy W1 none := by rw [hW1]; exact ⟨rfl, rfl, rfl, by simp, fun k hk _ => Below.heap_alloc w.drew _ k hk⟩
  obtain ⟨W2, hW2⟩ : ∃ W2, W2 = W1.setRow w.heap.size (pi_over (xs.take (i * 3) ++ Z).toArray (i * 3) cs) := ⟨_, rfl⟩
  have hrl : ((xs.take (i * 3) ++ Z).toArray).size = G * 3 := by simp [hxl, hZl]; omega
  have hcpA : ∀ o dl dc ty, o = i * 3 → dl = n + 1 - i → (Builtin.copy_ #[29, 29] ty #[.slice (some ⟨w.heap.size, o, none⟩) dl dc, .slice (some ⟨vb, 0, none⟩) 1 vc]).run Tryd.prog W1 = .ok (goInt (1 : Nat)) W2 := by
    rintro o dl dc ty rfl rfl
    rw [hW2]
    refine pi_run_copy_rows W1 29 29 ty 54 w.heap.size _ (n + 1 - i) dc ⟨vb, 0, none⟩ 1 vc _ 54 3 1 cs hus hinfo hb1 (by simp only [Nat.min_def]; split <;> omega) (by omega) ?_ (by rw [hrl]; omega) h1v
    intro j v hj
    rw [Addr.add_lit]
    refine (cell_of_row W1 vb _ cs.toArray 54 (0, 0) ((hB1 vb hvw).trans hv)).trans ?_
    simpa using hj
  have hb2 : W2.heap[w.heap.size]? = some (.cells (pi_over (xs.take (i * 3) ++ Z).toArray (i * 3) cs) 54 (0, 0)) := by rw [hW2]; exact setRow_heap W1 w.heap.size _ _ _ _ hb1
  have hg2 : W1.grownBy W2 (some w.heap.size) := by rw [hW2]; exact pi_setRow_grown W1 _ _
  have hB2 : ∀ k, k < w.heap.size → W2.heap[k]? = w.heap[k]? := fun k hk => (hg2.block k (Nat.lt_of_lt_of_le hk hg1.size) (by simp; omega)).trans (hB1 k hk)
  obtain ⟨W3, hW3⟩ : ∃ W3, W3 = W2.drew.setRow w.heap.size (pi_over (pi_over (xs.take (i * 3) ++ Z).toArray (i * 3) cs) ((i + 1) * 3) (xs.drop (i * 3))) := ⟨_, rfl⟩
  have hcpB : ∀ o dl so sl dc sc ty, o = (i + 1) * 3 → so = i * 3 → dl = n - i → sl = n - i → (Builtin.copy_ #[29, 29] ty #[.slice (some ⟨w.heap.size, o, none⟩) dl dc, .slice (some ⟨b, so, none⟩) sl sc]).run Tryd.prog W2.drew = .ok (goInt (n - i : Nat)) W3 := by
    rintro o dl so sl dc sc ty rfl rfl rfl rfl
    rw [hW3]
    refine pi_run_copy_rows W2.drew 29 29 ty 54 w.heap.size _ (n - i) dc ⟨b, i * 3, none⟩ (n - i) sc _ 54 3 (n - i) (xs.drop (i * 3)) hus hinfo hb2 (by simp only [Nat.min_def]; split <;> omega) (by simp [hxl]; omega) ?_ ?_ h1
    · intro j v hj
      rw [Addr.add_lit]
      refine (cell_of_row W2.drew b _ cur 54 (0, 0) ((hB2 b hbw).trans hb)).trans ?_
      rw [hxs, List.getElem?_drop, List.getElem?_take] at hj
      split at hj
      · simpa using hj
      · cases hj
    · rw [pi_over_size _ _ _ (by rw [hrl]; omega), hrl]; simp [hxl]; omega
  have hfin : W3.heap[w.heap.size]? = some (.cells (pi_over (pi_over (xs.take (i * 3) ++ Z).toArray (i * 3) cs) ((i + 1) * 3) (xs.drop (i * 3))) 54 (0, 0)) ∧ w.grownBy W3 none := by
    rw [hW3]
    refine ⟨setRow_heap W2.drew w.heap.size _ _ _ _ hb2, ?_⟩
    have hg3 := pi_setRow_grown W2.drew w.heap.size (pi_over (pi_over (xs.take (i * 3) ++ Z).toArray (i * 3) cs) ((i + 1) * 3) (xs.drop (i * 3)))
    exact ⟨hg3.os.trans (hg2.os.trans hg1.os), hg3.tape.trans (hg2.tape.trans hg1.tape), hg3.output.trans (hg2.output.trans hg1.output), Nat.le_trans hg1.size (Nat.le_trans hg2.size hg3.size), fun k hk _ => (hg3.block k (Nat.lt_of_lt_of_le hk (Nat.le_trans hg1.size hg2.size)) (by simp; omega)).trans (hB2 k hk)⟩
  have END := Aside0.mk (And.intro hGn (And.intro hGm (And.intro hZl hfin)))
  have APP := Aside0.mk hrz
  have CPA := Aside0.mk hcpA
  have CPB := Aside0.mk hcpB
  have hz2 : ¬ ((i : Int) = (n : Int)) := by omega
  have hz3 : (c : Int) < (n : Int) + 1 := by omega
  have hb2' : ¬ (G = i + 1) := by omega
  have hb3' : ¬ (G = i) := by omega
  have hb4 : ¬ (c = i) := by omega
  have hb5 : (i : Int) + 1 ≤ (n : Int) + 1 := by omega
  have hb6 : (i : Int) ≤ (n : Int) + 1 := by omega
  have hb8 : (i : Int) ≤ (n : Int) := by omega
  have htn : ((i : Int) + 1).toNat = i + 1 := by omega
  have hw1 : IntKind.i64.wrap ((i : Int) + 1) = (i : Int) + 1 := by rw [IntKind.wrap_i64]; omega
  have hb7 : (0 : Int) ≤ (i : Int) + 1 := by omega
  clear hrz hcpA hcpB hfin hb1 hb2 hB1 hB2 hg1 hg2 hW1 hW2 hW3 hZ hZl hG hold hik hxl hxs hb hv h1 h1v hcl hsz hrl hGm
  go_enter Tryd.func40, Tryd.ntmps40
  go_wp2_with (first
    | ((with_reducible refine gate_builtin (b := .append) (xs := #[.tmp 34, .tmp 39]) rfl ?_); refine pi_wpList_append_is _ rfl (.tmp 34) (.tmp 39) 29 3 rfl (.slice (some ⟨b, 0, none⟩) i c) (.int .i64 ((n : Int) + 1 - (i : Int))) (by rfl) (by rfl) (APP.out _) ?_)
    | ((with_reducible refine gate_builtin (b := .copy) (xs := #[.tmp 43, .tmp 44]) rfl ?_); refine pi_wpList_copy_is _ rfl (.tmp 43) (.tmp 44) 29 29 rfl (.slice (some ⟨w.heap.size, i * 3, none⟩) (n + 1 - i) (G - i)) (.slice (some ⟨vb, 0, none⟩) 1 vc) (by rfl) (by rfl) (CPA.out _ _ _ _ rfl rfl) ?_))
  go_region_law (refine pi_step_copy_is rfl (.tmp 50) (.tmp 53) 29 29 rfl (.slice (some ⟨w.heap.size, (i + 1) * 3, none⟩) (n - i) (G - (i + 1))) (.slice (some ⟨b, i * 3, none⟩) (n - i) (c - i)) (by simp [Act.eval, Act.put]) (by simp [Act.eval, Act.put]) (CPB.out _ _ _ _ _ _ _ rfl rfl rfl rfl) ?_)
  go_wp2
  go_ret
  exact ⟨G, Z, END.out.1, END.out.2.1, END.out.2.2.1, rfl, END.out.2.2.2⟩
set_option maxHeartbeats 4000000 in
set_option maxRecDepth 100000 in
theorem pi_insert_end (v : Value) (n vb vc : Nat) (xs cs : List Value) (w : World) (base : Nat) (A : Option Addr) (c : Nat) (hv0 : v = .slice A n c) (hown : w.ownsRow base 54 3 v n xs) (hbase : base ≤ w.heap.size) (hbig : (n + 1) * 24 ≤ 140737488355328)
    (hcl : cs.length = 3) (h1v : ∀ u ∈ cs, u.oneCell' = true) (hv : w.heap[vb]? = some (.cells cs.toArray 54 (0, 0))) :
    Calls Tryd.prog 40 #[v, .int .i64 n, .slice (some ⟨vb, 0, none⟩) 1 vc] w fun e w' => ∃ v', e = .returned v' ∧ w'.ownsRow base 54 3 v' (n + 1) (xs ++ cs) ∧ w.grownBy w' v.ownBlock ∧ (v'.ownBlock = v.ownBlock ∨ v'.ownBlock = some w.heap.size) := by
  have hus := Tryd.underlying29
  have hue := Tryd.underlying54
  obtain ⟨i0, hi0, hz0, hzs, hzb⟩ := info_parts info54
  have hnc : n ≤ c := by subst hv0; exact own_le hown
  have hm : c ≤ maxLen := by
    subst hv0
    rcases hown.2 with ⟨h, h0⟩ | ⟨g, cap, cur, h, _, _, _, h4, _⟩
    · injection h with _ _ h; rw [h]; unfold maxLen; omega
    · injection h with _ _ h; rw [h]; exact h4
  have hAn : A = none → c = 0 := by
    subst hv0
    rintro rfl
    rcases hown.2 with ⟨h, h0⟩ | ⟨g, cap, cur, h, _, _, _, h4, _⟩
    · injection h
    · injection h with h; cases h
  unfold maxLen at hm
  obtain ⟨v', w', hr, h2, h3, h4, h5⟩ := run_append_own_at (P := Tryd.prog) (w := w) base 29 29 54 i0 _ 3 24 Tryd.underlying29 hi0 hz0 hzs hzb rfl (by decide) v n xs hown ⟨vb, 0, none⟩ 1 vc cs (by omega) (fun j u hj => by
    rw [Addr.add_lit]
    refine (cell_of_row w vb _ cs.toArray 54 (0, 0) hv).trans ?_
    simpa using hj) h1v (by unfold maxLen; omega) hbig hbase
  have END := Aside0.mk (And.intro h2 (And.intro h3 h5))
  have RUN := Aside0.mk hr
  clear h2 h3 h4 h5 hr hown hv h1v hcl
  subst hv0
  have hz2 : ((n : Int) == (n : Int)) = true := by simp
  go_enter Tryd.func40, Tryd.ntmps40
  cases A with
  | none =>
    have h0 := hAn rfl
    subst h0
    obtain rfl : n = 0 := by omega
    go_wp2_with ((with_reducible refine gate_builtin (b := .append) (xs := #[.tmp 23, .tmp 24]) rfl ?_); refine pi_wpList_append_is _ rfl (.tmp 23) (.tmp 24) 29 29 rfl (.slice none 0 0) (.slice (some ⟨vb, 0, none⟩) 1 vc) (by rfl) (by rfl) RUN.out ?_)
    go_ret
    exact ⟨v', rfl, END.out⟩
  | some ad =>
    obtain ⟨ab, ao, asp⟩ := ad
    go_wp2_with ((with_reducible refine gate_builtin (b := .append) (xs := #[.tmp 23, .tmp 24]) rfl ?_); refine pi_wpList_append_is _ rfl (.tmp 23) (.tmp 24) 29 29 rfl (.slice (some ⟨ab, ao, asp⟩) n c) (.slice (some ⟨vb, 0, none⟩) 1 vc) (by rfl) (by rfl) RUN.out ?_)
    all_goals (go_ret; exact ⟨v', rfl, END.out⟩)
theorem pi_insert_own (v : Value) (n i vb vc : Nat) (xs cs : List Value) (w : World) (base : Nat) (hown : w.ownsRow base 54 3 v n xs) (hi : i ≤ n) (hbase : base ≤ w.heap.size) (hbig : (n + 1) * 24 ≤ 140737488355328) (hvb : v.ownBlock ≠ some vb)
    (hcl : cs.length = 3) (h1v : ∀ u ∈ cs, u.oneCell' = true) (h1 : ∀ u ∈ xs, u.oneCell' = true) (hv : w.heap[vb]? = some (.cells cs.toArray 54 (0, 0))) :
    Calls Tryd.prog 40 #[v, .int .i64 i, .slice (some ⟨vb, 0, none⟩) 1 vc] w fun e w' => ∃ v', e = .returned v' ∧ w'.ownsRow base 54 3 v' (n + 1) (xs.take (i * 3) ++ (cs ++ xs.drop (i * 3))) ∧ w.grownBy w' v.ownBlock ∧ (v'.ownBlock = v.ownBlock ∨ v'.ownBlock = some w.heap.size) := by
  by_cases hin : i = n
  · subst hin
    have hxl := hown.1
    have e1 : xs.take (i * 3) = xs := List.take_of_length_le (by omega)
    have e2 : xs.drop (i * 3) = [] := List.drop_of_length_le (by omega)
    rw [e1, e2, List.append_nil]
    obtain ⟨A, c, rfl⟩ := own_slice hown
    exact pi_insert_end _ i vb vc xs cs w base A c rfl hown hbase hbig hcl h1v hv
  · have hlt : i < n := by omega
    have hxl := hown.1
    rcases hown.2 with ⟨rfl, h0⟩ | ⟨g, c, cur, rfl, hg, hb, hnc, hcm, hsz, hxs⟩
    · omega
    · have hne : vb ≠ g := fun e => hvb (by simp [Value.ownBlock, e])
      by_cases hroom : n + 1 ≤ c
      · refine (pi_insert_room g n c i vb vc cs cur w hlt hroom hcm hne hsz hb hcl h1v hv (fun u hu => by rw [hxs] at hu; exact h1 u (List.mem_of_mem_drop hu))).mono ?_
        rintro e w' ⟨rfl, hw, hgr⟩
        refine ⟨_, rfl, ⟨by simp [hxl, hcl]; omega, .inr ⟨g, c, _, rfl, hg, hw, hroom, hcm, ?_, ?_⟩⟩, hgr, .inl rfl⟩
        · have hdl : ((cur.toList.take (n * 3)).drop (i * 3)).length = (n - i) * 3 := by simp [hsz]; omega
          rw [pi_over_size _ _ _ (by rw [pi_over_size _ _ _ (by omega)]; omega), pi_over_size _ _ _ (by omega), hsz]
        · have := pi_take_room cur.toList cs n i hlt (by simp [hsz]; omega) hcl
          rw [hxs] at this
          rw [hxs]
          simpa using this
      · refine (pi_insert_grow g n c i vb vc xs cs cur w hlt hnc (by omega) hbig hxs.symm hsz hb hcl h1v hv (fun u hu => h1 u (List.mem_of_mem_drop hu))).mono ?_
        rintro e w' ⟨G, Z, hG, hGm, hZ, rfl, hw, hgr⟩
        refine ⟨_, rfl, ⟨by simp [hxl, hcl]; omega, .inr ⟨w.heap.size, G, _, rfl, hbase, hw, hG, hGm, ?_, ?_⟩⟩, pi_grown_any hgr _, .inr rfl⟩
        · have hrl : ((xs.take (i * 3) ++ Z).toArray).size = G * 3 := by simp [hxl, hZ]; omega
          have hdl : (xs.drop (i * 3)).length = (n - i) * 3 := by simp [hxl]; omega
          rw [pi_over_size _ _ _ (by rw [pi_over_size _ _ _ (by omega)]; omega), pi_over_size _ _ _ (by omega), hrl]
        · exact pi_take_grow xs Z cs n i hlt hxl (by rw [hZ]; omega) hcl
theorem pi_reps_insert {α : Type} {R : α → List Value → Prop} {size : Nat} {ps : List α} {cs c : List Value} {p : α} (h : Reps R size ps cs) (hp : R p c) (hc : c.length = size) (i : Nat) (hi : i ≤ ps.length) : Reps R size (ps.take i ++ p :: ps.drop i) (cs.take (i * size) ++ (c ++ cs.drop (i * size))) := by
  have h1 := Kd.reps_take h hi
  have h2 := Kd.reps_drop (m := i) h
  have h3 : Reps R size [p] c := by simpa using Reps.snoc (Reps.none R size) hp hc
  have h4 := Kd.reps_append h1 (Kd.reps_append h3 h2)
  simpa using h4
/-- slices.Insert of one element into a row of the call's own. -/
theorem pi_insert_calls (v : Value) (l : List S54) (x : S54) (i vb vc : Nat) (w : World) (base : Nat) (HO : Kd.R k54 54 w base (fun _ => True) v l) (hi : i ≤ l.length) (hbase : base ≤ w.heap.size) (hbig : (l.length + 1) * 24 ≤ 140737488355328) (hvb : v.ownBlock ≠ some vb)
    (hv : w.heap[vb]? = some (.cells #[.int .i64 x.f0, .int .i64 x.f1, .int .i64 x.f2] 54 (0, 0))) :
    Calls Tryd.prog 40 #[v, .int .i64 i, .slice (some ⟨vb, 0, none⟩) 1 vc] w fun e w' => ∃ v', e = .returned v' ∧ Kd.R k54 54 w' base (fun _ => True) v' (l.take i ++ x :: l.drop i) ∧ w.grownBy w' v.ownBlock ∧ (v'.ownBlock = v.ownBlock ∨ v'.ownBlock = some w.heap.size) := by
  obtain ⟨_, inner, hown, hr⟩ := HO
  have h1 : ∀ u ∈ inner, u.oneCell' = true := Kd.reps_one hr (by decide) (fun p c h u hu => k54.K_one (k54.K_of_M h) u hu)
  refine (pi_insert_own v l.length i vb vc inner [.int .i64 x.f0, .int .i64 x.f1, .int .i64 x.f2] w base hown hi hbase hbig hvb rfl (by simp [Value.oneCell']) h1 hv).mono ?_
  rintro e w' ⟨v', rfl, h2, h3, h4⟩
  refine ⟨v', rfl, ⟨fun _ _ => trivial, _, ?_, pi_reps_insert (R := k54.M w' base (fun k => True ∧ some k ≠ v'.ownBlock)) (hr.imp_ (fun q c h => ?_)) (k54_mkM _ _ _ x) rfl i hi⟩, h3, h4⟩
  · rw [show (l.take i ++ x :: l.drop i).length = l.length + 1 by simp; omega]
    exact h2
  · have e := k54_openM h
    subst e
    exact k54_mkM _ _ _ q
end Go.Proofs.YtldpacphackdjaaDoor.Print
/- That slices.Delete of one element answers the list without it, in the row of the call's own that came in. -/
namespace Go.Proofs.YtldpacphackdjaaDoor.Print
open Go.RowKit Go.Proofs.YtldpacphackdjaaDoorW.PrintWords Go.Proofs.YtldpacphackdjaaDoorW.PrintLast Go.Proofs.YtldpacphackdjaaDoorW.PrintMore
set_option linter.unusedVariables false
set_option linter.unusedSimpArgs false
theorem pd_step_append_is {P : Program} {ops : Array Oper} {o : Oper} {a : Act} {w : World} {K : Act → World → Prop} {Q : Exit → Act → World → Prop} {E : Prop}
    (hg : o.guard = none) (d x : Operand) (dT sT : TypeId) (hop : o.op = Op.call { callee := Callee.builtin Builtin.append, args := #[d, x], argTypes := #[dT, sT] })
    (v u : Value) (hd : a.eval d = v) (hx : a.eval x = u) {v' : Value} {w' : World} (hr : (Builtin.append_ #[dT, sT] o.type #[v, u]).run P w = .ok v' w') (hK : K (a.put o.dst v') w') :
    if Region.wanted o (yielded ops a.tmps) = true then Oper.wp P o a w K Q else E := by
  have hw : Region.wanted o (yielded ops a.tmps) = true := by simp [Region.wanted, hg]
  rw [if_pos hw]
  unfold Oper.wp
  simp [execOp, hop, resolve, invoke, builtin, hd, hx, hr, Result.andThen]
  exact hK
set_option maxHeartbeats 4000000 in
set_option maxRecDepth 100000 in
theorem pd_delete_own (v : Value) (n i : Nat) (xs : List Value) (w : World) (base : Nat) (hown : w.ownsRow base 54 3 v n xs) (hi : i < n) (h1 : ∀ u ∈ xs, u.oneCell' = true) :
    Calls Tryd.prog 53 #[v, .int .i64 (i : Int), .int .i64 ((i : Int) + 1)] w fun e w' => ∃ v', e = .returned v' ∧ w'.ownsRow base 54 3 v' (n - 1) (xs.take (i * 3) ++ xs.drop ((i + 1) * 3)) ∧ w.grownBy w' v.ownBlock ∧ v'.ownBlock = v.ownBlock := by
  have hus := Tryd.underlying29
  have hue := Tryd.underlying54
  have hxl := hown.1
  rcases hown.2 with ⟨rfl, h0⟩ | ⟨g, c, cur, rfl, hg, hb, hnc, hcm, hsz, hxs⟩
  · omega
  obtain ⟨i0, hi0, hz0, hzs, hzb⟩ := info_parts info54
  have htk : w.drew.ownsRow base 54 3 (.slice (some ⟨g, 0, none⟩) i c) i (xs.take (i * 3)) := own_take hown (by omega)
  have hcm' := hcm
  unfold maxLen at hcm'
  -- the append in place
  have hrun : ∃ w1, (∀ so sl sc ty, sl = n - (i + 1) → (sl = 0 ∨ so = ⟨g, (i + 1) * 3, none⟩) → (Builtin.append_ #[29, 29] ty #[.slice (some ⟨g, 0, none⟩) i c, .slice (some so) sl sc]).run Tryd.prog w.drew = .ok (.slice (some ⟨g, 0, none⟩) (n - 1) c) w1) ∧
      w1.ownsRow base 54 3 (.slice (some ⟨g, 0, none⟩) (n - 1) c) (n - 1) (xs.take (i * 3) ++ xs.drop ((i + 1) * 3)) ∧ w.drew.grownBy w1 (some g) := by
    have hreads : ∀ j u, (xs.drop ((i + 1) * 3))[j]? = some u → w.drew.cell? ((⟨g, (i + 1) * 3, none⟩ : Addr).add j) = some u := fun j u hj => by
      rw [Addr.add_lit]
      refine (cell_of_row w.drew g _ cur 54 (0, 0) hb).trans ?_
      rw [← hxs, List.getElem?_drop, List.getElem?_take] at hj
      split at hj
      · simpa using hj
      · cases hj
    obtain ⟨w1, hr, ho, hgr⟩ := run_append_fits (P := Tryd.prog) w.drew base 29 0 54 i0 3 Tryd.underlying29 hi0 hzs g i c (xs.take (i * 3)) htk ⟨g, (i + 1) * 3, none⟩ (n - (i + 1)) 0 (xs.drop ((i + 1) * 3)) (by simp [hxl]; omega) hreads (fun u hu => h1 u (List.mem_of_mem_drop hu)) (by omega)
    have e : i + (n - (i + 1)) = n - 1 := by omega
    rw [e] at hr ho
    refine ⟨w1, ?_, ho, hgr⟩
    rintro so sl sc ty rfl (h0 | rfl)
    · obtain ⟨w2, hr2, ho2, hgr2⟩ := run_append_fits (P := Tryd.prog) w.drew base 29 ty 54 i0 3 Tryd.underlying29 hi0 hzs g i c (xs.take (i * 3)) htk so (n - (i + 1)) sc (xs.drop ((i + 1) * 3)) (by simp [hxl]; omega) (fun j u hj => by rw [List.drop_of_length_le (by omega)] at hj; simp at hj) (fun u hu => h1 u (List.mem_of_mem_drop hu)) (by omega)
      rw [e] at hr2
      have hw : w2 = w1 := by
        have a1 := run_append_room (P := Tryd.prog) w.drew 29 0 54 i0 Tryd.underlying29 hi0 g i c cur hb ⟨g, (i + 1) * 3, none⟩ (n - (i + 1)) 0 (xs.drop ((i + 1) * 3)) (by rw [hzs]; simp [hxl]; omega) hreads (fun u hu => h1 u (List.mem_of_mem_drop hu)) (by omega) (by rw [hzs, hsz]; simp [hxl]; omega)
        have a2 := run_append_room (P := Tryd.prog) w.drew 29 ty 54 i0 Tryd.underlying29 hi0 g i c cur hb so (n - (i + 1)) sc (xs.drop ((i + 1) * 3)) (by rw [hzs]; simp [hxl]; omega) (fun j u hj => by rw [List.drop_of_length_le (by omega)] at hj; simp at hj) (fun u hu => h1 u (List.mem_of_mem_drop hu)) (by omega) (by rw [hzs, hsz]; simp [hxl]; omega)
        rw [e] at a1 a2
        rw [hr] at a1
        rw [hr2] at a2
        injection a1 with _ a1
        injection a2 with _ a2
        rw [a1, a2]
      rw [hr2, hw]
    · have a1 := run_append_room (P := Tryd.prog) w.drew 29 0 54 i0 Tryd.underlying29 hi0 g i c cur hb ⟨g, (i + 1) * 3, none⟩ (n - (i + 1)) 0 (xs.drop ((i + 1) * 3)) (by rw [hzs]; simp [hxl]; omega) hreads (fun u hu => h1 u (List.mem_of_mem_drop hu)) (by omega) (by rw [hzs, hsz]; simp [hxl]; omega)
      have a2 := run_append_room (P := Tryd.prog) w.drew 29 ty 54 i0 Tryd.underlying29 hi0 g i c cur hb ⟨g, (i + 1) * 3, none⟩ (n - (i + 1)) sc (xs.drop ((i + 1) * 3)) (by rw [hzs]; simp [hxl]; omega) hreads (fun u hu => h1 u (List.mem_of_mem_drop hu)) (by omega) (by rw [hzs, hsz]; simp [hxl]; omega)
      rw [e] at a1 a2
      rw [a2]
      rw [hr] at a1
      injection a1 with _ a1
      rw [a1]
  obtain ⟨w1, happ, ho1, hg1⟩ := hrun
  rcases ho1.2 with ⟨h, _⟩ | ⟨g', c', cur1, h, _, hb1, hnc1, hcm1, hsz1, hxs1⟩
  · simp at h
  simp only [Value.slice.injEq, Option.some.injEq, Addr.mk.injEq, and_true, true_and] at h
  obtain ⟨rfl, rfl⟩ := h
  -- the clearing of the last place
  have hclr : ∀ ty k cc, k = 1 → (Builtin.clear_ #[29] ty #[.slice (some ⟨g, (n - 1) * 3, none⟩) k cc]).run Tryd.prog w1 = .ok (.tuple #[]) (w1.setRow g (pi_over cur1 ((n - 1) * 3) ([.int .i64 0, .int .i64 0, .int .i64 0])))   := fun ty k cc hk => by
    subst hk
    have hst := run_storeCells_at Tryd.prog g ((n - 1) * 3) 54 ([.int .i64 0, .int .i64 0, .int .i64 0]) 0 cur1 w1 hb1 (by rw [hsz1]; simp; omega) (by intro u hu; simp at hu; subst hu; rfl)
    have hzv : ∀ w, (zeroValue 54).run Tryd.prog w = .ok (.agg #[.int .i64 0, .int .i64 0, .int .i64 0]) w := fun w => by kernel_rfl
    have hzc : (Builtin.zeroCells (Value.agg #[.int .i64 0, .int .i64 0, .int .i64 0]).cells 1).toList = [.int .i64 0, .int .i64 0, .int .i64 0] := by kernel_rfl
    simp only [Builtin.clear_]
    simp [run_underlying hus, hzv, hzc, hst, pi_over]
  have hrow : (w1.setRow g (pi_over cur1 ((n - 1) * 3) ([.int .i64 0, .int .i64 0, .int .i64 0]))).ownsRow base 54 3 (.slice (some ⟨g, 0, none⟩) (n - 1) c) (n - 1) (xs.take (i * 3) ++ xs.drop ((i + 1) * 3)) := by
    refine ⟨ho1.1, .inr ⟨g, c, _, rfl, hg, setRow_heap w1 g _ _ _ _ hb1, by omega, hcm, ?_, ?_⟩⟩
    · rw [pi_over_size _ _ _ (by rw [hsz1]; simp; omega), hsz1]
    · rw [pi_over_list, List.append_assoc, List.take_append_of_le_length (by simp [hsz1]; omega), List.take_take, Nat.min_self, hxs1]
  have hgr : w.grownBy (w1.setRow g (pi_over cur1 ((n - 1) * 3) ([.int .i64 0, .int .i64 0, .int .i64 0]))) (some g) := pi_grown_trans (pi_grown_trans (pi_drew_grown w _) hg1) (pi_setRow_grown w1 g _)
  have END := Aside0.mk (And.intro hrow hgr)
  have APP := Aside0.mk happ
  generalize w1.setRow g (pi_over cur1 ((n - 1) * 3) ([.int .i64 0, .int .i64 0, .int .i64 0])) = w2 at END hclr
  have CLR := Aside0.mk hclr
  have hz2 : ((i : Int) == (i : Int) + 1) = false := by rw [beq_eq_false_iff_ne]; omega
  have hz3 : ¬ ((i : Int) = (i : Int) + 1) := by omega
  have hb5 : (i : Int) + 1 ≤ (n : Int) := by omega
  have hb6 : (i : Int) ≤ (n : Int) := by omega
  have hb7 : (0 : Int) ≤ (i : Int) + 1 := by omega
  have hb8 : (i : Int) ≤ (c : Int) := by omega
  have hb9 : (n : Int) ≤ (c : Int) := by omega
  have htn : ((i : Int) + 1).toNat = i + 1 := by omega
  have hn1 : 1 ≤ n := by omega
  have hn2 : ¬ (c = n - 1) := by omega
  have hn3 : ¬ (c = i) := by omega
  have hn4 : ¬ (n = i) := by omega
  clear hclr happ hrow hgr hxs hxs1 hsz hsz1 hb hb1 ho1 hown htk hxl h1 hcm hcm1 hnc1
  by_cases hci : c = i + 1
  · have hni : n = i + 1 := by omega
    subst hni
    subst hci
    have q1 : (i : Int) ≤ (i : Int) + 1 := by omega
    have q2 : (0 : Int) ≤ (i : Int) := by omega
    go_enter Tryd.func53, Tryd.ntmps53
    go_wp2
    go_region_law (refine pd_step_append_is rfl (.tmp 22) (.tmp 25) 29 29 rfl (.slice (some ⟨g, 0, none⟩) i (i + 1)) (.slice (some ⟨g, 0, none⟩) 0 0) (by simp [Act.eval, Act.put]) (by simp [Act.eval, Act.put]) (APP.out _ _ _ _ (by omega) (.inl rfl)) ?_)
    have hclr := CLR.out 0 1 1 rfl; simp only [Nat.add_sub_cancel] at hclr
    go_wp2
    go_ret
    exact ⟨_, rfl, END.out.1, END.out.2, rfl⟩
  · have q3 : ((n : Int) - 1).toNat = n - 1 := by omega
    go_enter Tryd.func53, Tryd.ntmps53
    go_wp2
    go_region_law (refine pd_step_append_is rfl (.tmp 22) (.tmp 25) 29 29 rfl (.slice (some ⟨g, 0, none⟩) i c) (.slice (some ⟨g, (i + 1) * 3, none⟩) (n - (i + 1)) (c - (i + 1))) (by simp [Act.eval, Act.put]) (by simp [Act.eval, Act.put]) (APP.out _ _ _ _ rfl (.inr rfl)) ?_)
    have hclr := CLR.out 0 (n - (n - 1)) (c - (n - 1)) (by omega)
    go_wp2
    go_ret
    exact ⟨_, rfl, END.out.1, END.out.2, rfl⟩
theorem pd_reps_delete {α : Type} {R : α → List Value → Prop} {size : Nat} {ps : List α} {cs : List Value} (h : Reps R size ps cs) (i : Nat) (hi : i ≤ ps.length) : Reps R size (ps.take i ++ ps.drop (i + 1)) (cs.take (i * size) ++ cs.drop ((i + 1) * size)) :=
  Kd.reps_append (Kd.reps_take h hi) (Kd.reps_drop (m := i + 1) h)
/-- slices.Delete of one element out of a row of the call's own. -/
theorem pd_delete_calls (v : Value) (l : List S54) (i : Nat) (w : World) (base : Nat) (HO : Kd.R k54 54 w base (fun _ => True) v l) (hi : i < l.length) :
    Calls Tryd.prog 53 #[v, .int .i64 (i : Int), .int .i64 ((i : Int) + 1)] w fun e w' => ∃ v', e = .returned v' ∧ Kd.R k54 54 w' base (fun _ => True) v' (l.take i ++ l.drop (i + 1)) ∧ w.grownBy w' v.ownBlock ∧ v'.ownBlock = v.ownBlock := by
  obtain ⟨_, inner, hown, hr⟩ := HO
  have h1 : ∀ u ∈ inner, u.oneCell' = true := Kd.reps_one hr (by decide) (fun p c h u hu => k54.K_one (k54.K_of_M h) u hu)
  refine (pd_delete_own v l.length i inner w base hown hi h1).mono ?_
  rintro e w' ⟨v', rfl, h2, h3, h4⟩
  refine ⟨v', rfl, ⟨fun _ _ => trivial, _, ?_, pd_reps_delete (R := k54.M w' base (fun k => True ∧ some k ≠ v'.ownBlock)) (hr.imp_ (fun q c h => ?_)) i (by omega)⟩, h3, h4⟩
  · rw [show (l.take i ++ l.drop (i + 1)).length = l.length - 1 by simp; omega]
    exact h2
  · have e := k54_openM h
    subst e
    exact k54_mkM _ _ _ q
end Go.Proofs.YtldpacphackdjaaDoor.Print
/- Plain definitions on accounts: what a valid account is, what it is worth, where a call's hold stands; and that the printed Check and Worth answer so. Conditions: enough rounds; a list that is no longer than a machine holds. -/
namespace Go.Proofs.YtldpacphackdjaaDoor.Print
open Go.RowKit Go.Proofs.YtldpacphackdjaaDoorW.PrintWords Go.Proofs.YtldpacphackdjaaDoorW.PrintLast Go.Proofs.YtldpacphackdjaaDoorW.PrintMore
set_option linter.unusedVariables false
set_option linter.unusedSimpArgs false

/-- A hold with a number above p, and all its numbers in range. -/
def holdB (p : Int) (h : S54) : Bool := decide (1 ≤ h.f0) && decide (p < h.f0) && (decide (h.f0 ≤ 1099511627776) && (decide (0 ≤ h.f1) && (decide (h.f1 ≤ 1099511627776) && (decide (0 ≤ h.f2) && decide (h.f2 ≤ 1099511627776)))))
def hFrom : Int → List S54 → Bool
  | _, [] => true
  | p, h :: t => holdB p h && hFrom h.f0 t
def sumU (l : List S54) : Int := (l.map (·.f1)).sum
/-- What Worth answers. -/
def worthW (b : Int) (l : List S54) : Int := l.foldl (fun n h => wrap64 (n + h.f1)) b
def numB (s : ByteArray) : Bool := decide (1 ≤ s.size) && (decide (s.size ≤ 15) && decide (Lib.trimS s.data.toList digits10.data.toList = []))
/-- What Check answers. -/
def pchk (s : ByteArray) (b : Int) (l : List S54) : Int := if l.length > 1024 then 2 else if numB s = true ∧ (0 ≤ b ∧ b ≤ 1099511627776) ∧ hFrom 0 l = true ∧ worthW b l ≤ 1099511627776 then 0 else 1
theorem pw1 {j : Nat} (h : j < 1000000000000) : wrap64 ((j : Int) + 1) = ((j + 1 : Nat) : Int) := by unfold wrap64; omega
theorem rdH_is (l : List S54) (j : Nat) (hj : j < l.length) : rd_T54 l (j : Int) = l[j] := by simp [rd_T54, List.getD_eq_getElem?_getD, List.getElem?_eq_getElem hj]
theorem dropH_at (l : List S54) (j : Nat) (hj : j < l.length) : l.drop j = rd_T54 l (j : Int) :: l.drop (j + 1) := by
  rw [rdH_is l j hj, List.drop_eq_getElem_cons hj]
theorem pwithin_is (n low : Int) : prepaid_within.f n low = some (decide (low ≤ n ∧ n ≤ 1099511627776)) := by
  unfold prepaid_within.f
  by_cases h : n ≥ low
  · rw [if_pos h]; simp [show low ≤ n from h]
  · rw [if_neg h]; simp [show ¬ low ≤ n from h]
theorem worth_l0 (l : List S54) (hl : l.length ≤ 1000000000) : ∀ (d j k : Nat) (n : Int), l.length - j = d → d + 1 ≤ k → prepaid_Worth.l0 k n l (l.length : Int) (j : Int) = some (worthW n (l.drop j)) := by
  intro d
  induction d with
  | zero =>
    intro j k n hd hk
    obtain ⟨k, rfl⟩ : ∃ i, k = i + 1 := ⟨k - 1, by omega⟩
    simp only [prepaid_Worth.l0]
    rw [if_neg (by omega), List.drop_of_length_le (by omega)]
    rfl
  | succ d ih =>
    intro j k n hd hk
    obtain ⟨k, rfl⟩ : ∃ i, k = i + 1 := ⟨k - 1, by omega⟩
    have hj : j < l.length := by omega
    simp only [prepaid_Worth.l0]
    rw [if_pos (by omega), if_pos (by omega), if_pos (by omega), pw1 (by omega), dropH_at l j hj, ih (j + 1) k _ (by omega) (by omega)]
    rfl
theorem worth_is (s : ByteArray) (b : Int) (l : List S54) (hl : l.length ≤ 1000000000) (k : Nat) (hk : l.length + 1 ≤ k) : prepaid_Worth.f k s b l = some (worthW b l) := by
  unfold prepaid_Worth.f
  have := worth_l0 l hl l.length 0 k b (by omega) (by omega)
  rw [show ((0 : Nat) : Int) = 0 from rfl] at this
  rw [this]
  rfl
def prevH (l : List S54) (j : Nat) : Int := if j = 0 then 0 else (rd_T54 l ((j - 1 : Nat) : Int)).f0
theorem pcheck_l0 (s : ByteArray) (b : Int) (l : List S54) (hl : l.length ≤ 1024) : ∀ (d j k : Nat), l.length - j = d → d + 1100 ≤ k → prepaid_Check.l0 k l (l.length : Int) (j : Int) s b l = some (if hFrom (prevH l j) (l.drop j) = true ∧ worthW b l ≤ 1099511627776 then 0 else 1) := by
  intro d
  induction d with
  | zero =>
    intro j k hd hk
    obtain ⟨k, rfl⟩ : ∃ i, k = i + 1 := ⟨k - 1, by omega⟩
    simp only [prepaid_Check.l0]
    rw [if_neg (by omega), worth_is s b l (by omega) k (by omega), Option.bind_some, List.drop_of_length_le (by omega)]
    by_cases h : worthW b l > 1099511627776
    · rw [if_pos h, if_neg (fun h2 => by omega)]
    · rw [if_neg h, if_pos ⟨rfl, by omega⟩]
  | succ d ih =>
    intro j k hd hk
    obtain ⟨k, rfl⟩ : ∃ i, k = i + 1 := ⟨k - 1, by omega⟩
    have hj : j < l.length := by omega
    have hn := ih (j + 1) k (by omega) (by omega)
    have hp : prevH l (j + 1) = (rd_T54 l (j : Int)).f0 := by unfold prevH; rw [if_neg (by omega), Nat.add_sub_cancel]
    rw [hp] at hn
    simp only [prepaid_Check.l0]
    rw [if_pos (by omega), if_pos (by omega), if_pos (by omega), pwithin_is, Option.bind_some, pwithin_is, pwithin_is, pw1 (by omega), hn, dropH_at l j hj]
    simp only [Option.bind_some, hFrom]
    have hx : ∀ z : S54, holdB (prevH l j) z = true ↔ ((1 ≤ z.f0 ∧ z.f0 ≤ 1099511627776) ∧ prevH l j < z.f0 ∧ (0 ≤ z.f1 ∧ z.f1 ≤ 1099511627776) ∧ (0 ≤ z.f2 ∧ z.f2 ≤ 1099511627776)) := fun z => by
      unfold holdB
      simp only [Bool.and_eq_true, decide_eq_true_eq]
      omega
    have hp0 : 0 < j → prevH l j = (rd_T54 l ((j - 1 : Nat) : Int)).f0 := fun h => by unfold prevH; rw [if_neg (by omega)]
    have hp1 : j = 0 → prevH l j = 0 := fun h => by unfold prevH; rw [if_pos h]
    have no : ¬ holdB (prevH l j) (rd_T54 l (j : Int)) = true → (some 1 : Option Int) = some (if (holdB (prevH l j) (rd_T54 l (j : Int)) && hFrom (rd_T54 l (j : Int)).f0 (l.drop (j + 1))) = true ∧ worthW b l ≤ 1099511627776 then 0 else 1) := fun h => by
      rw [Bool.not_eq_true] at h
      rw [h, Bool.false_and, if_neg (by simp)]
    have hz := hx (rd_T54 l (j : Int))
    by_cases c1 : 1 ≤ (rd_T54 l (j : Int)).f0 ∧ (rd_T54 l (j : Int)).f0 ≤ 1099511627776
    · rw [if_pos (decide_eq_true c1)]
      have tail : prevH l j < (rd_T54 l (j : Int)).f0 → (if decide (0 ≤ (rd_T54 l (j : Int)).f1 ∧ (rd_T54 l (j : Int)).f1 ≤ 1099511627776) = true then (if decide (0 ≤ (rd_T54 l (j : Int)).f2 ∧ (rd_T54 l (j : Int)).f2 ≤ 1099511627776) = true then some (if hFrom (rd_T54 l (j : Int)).f0 (l.drop (j + 1)) = true ∧ worthW b l ≤ 1099511627776 then (0 : Int) else 1) else some 1) else some 1) = some (if (holdB (prevH l j) (rd_T54 l (j : Int)) && hFrom (rd_T54 l (j : Int)).f0 (l.drop (j + 1))) = true ∧ worthW b l ≤ 1099511627776 then 0 else 1) := fun hp => by
        by_cases c3 : 0 ≤ (rd_T54 l (j : Int)).f1 ∧ (rd_T54 l (j : Int)).f1 ≤ 1099511627776
        · rw [if_pos (decide_eq_true c3)]
          by_cases c4 : 0 ≤ (rd_T54 l (j : Int)).f2 ∧ (rd_T54 l (j : Int)).f2 ≤ 1099511627776
          · rw [if_pos (decide_eq_true c4), hz.2 ⟨c1, hp, c3, c4⟩, Bool.true_and]
          · rw [if_neg (by simpa using c4)]
            exact no (fun h => c4 (hz.1 h).2.2.2)
        · rw [if_neg (by simpa using c3)]
          exact no (fun h => c3 (hz.1 h).2.2.1)
      by_cases h0 : (j : Int) > 0
      · rw [if_pos h0, show wrap64 ((j : Int) - 1) = ((j - 1 : Nat) : Int) by unfold wrap64; omega, if_pos (by omega), if_pos (by omega)]
        by_cases c2 : (rd_T54 l ((j - 1 : Nat) : Int)).f0 ≥ (rd_T54 l (j : Int)).f0
        · rw [if_pos c2]
          exact no (fun h => by have := (hz.1 h).2.1; rw [hp0 (by omega)] at this; omega)
        · rw [if_neg c2]
          exact tail (by rw [hp0 (by omega)]; omega)
      · rw [if_neg h0]
        exact tail (by rw [hp1 (by omega)]; omega)
    · rw [if_neg (by simpa using c1)]
      exact no (fun h => c1 (hz.1 h).1)
theorem pcheck_is (s : ByteArray) (b : Int) (l : List S54) (k : Nat) (hk : 3000 ≤ k) : prepaid_Check.f k s b l = some (pchk s b l) := by
  obtain ⟨k, rfl⟩ : ∃ i, k = i + 1 := ⟨k - 1, by omega⟩
  unfold prepaid_Check.f pchk
  by_cases hl : l.length > 1024
  · rw [if_pos (by omega), if_pos hl]
  · rw [if_neg (by omega), if_neg hl]
    have j1 : prepaid_Check.j0 (k + 1) true s b l = some 1 := by simp only [prepaid_Check.j0]; rw [if_pos trivial]
    have hsz : s.size = s.data.toList.length := by rw [Array.length_toList]; rfl
    have hnil : s.toList = [] ↔ s.size = 0 := by
      rw [Lib.toList_data, hsz]
      exact List.length_eq_zero_iff.symm
    by_cases h0 : s.size = 0
    · rw [if_pos (hnil.2 h0), j1, if_neg (fun h => by have := h.1; unfold numB at this; simp at this; omega)]
    · rw [if_neg (fun h => h0 (hnil.1 h))]
      by_cases h15 : (s.size : Int) > 15
      · rw [if_pos h15, j1, if_neg (fun h => by have := h.1; unfold numB at this; simp at this; omega)]
      · rw [if_neg h15]
        have ht : strings_Trim.f s ⟨#[48, 49, 50, 51, 52, 53, 54, 55, 56, 57]⟩ = some ⟨(Lib.trimS s.data.toList digits10.data.toList).toArray⟩ := by
          unfold strings_Trim.f
          rw [if_pos ⟨by omega, rfl⟩]
        rw [ht, Option.bind_some]
        have htl : (⟨(Lib.trimS s.data.toList digits10.data.toList).toArray⟩ : ByteArray).toList = Lib.trimS s.data.toList digits10.data.toList := by rw [Lib.toList_data]
        rw [htl]
        by_cases hn : Lib.trimS s.data.toList digits10.data.toList = []
        · have hnum : numB s = true := by unfold numB; simp [hn]; omega
          rw [if_pos hn, pwithin_is, Option.bind_some, hnum]
          by_cases hb : 0 ≤ b ∧ b ≤ 1099511627776
          · rw [decide_eq_true hb]
            simp only [prepaid_Check.j0]
            have := pcheck_l0 s b l (by omega) l.length 0 k (by omega) (by omega)
            rw [show ((0 : Nat) : Int) = 0 from rfl] at this
            rw [if_neg (by simp), this]
            have e : prevH l 0 = 0 := by unfold prevH; rw [if_pos rfl]
            rw [e, List.drop_zero]
            congr 1
            by_cases hh : hFrom 0 l = true ∧ worthW b l ≤ 1099511627776
            · rw [if_pos hh, if_pos ⟨trivial, hb, hh.1, hh.2⟩]
            · rw [if_neg hh, if_neg (fun h => hh ⟨h.2.2.1, h.2.2.2⟩)]
          · rw [decide_eq_false hb, Bool.not_false, j1, if_neg (fun h => hb h.2.1)]
        · rw [if_neg hn, j1, if_neg (fun h => by have := h.1; unfold numB at this; simp [hn] at this)]
end Go.Proofs.YtldpacphackdjaaDoor.Print
/- That prepaid.begin makes an account at work out of a valid one, with a row of holds of its own, and says why another one is none; and that (*account).hold finds a call's place. -/
namespace Go.Proofs.YtldpacphackdjaaDoor.Print
open Go.RowKit Go.Proofs.YtldpacphackdjaaDoorW.PrintWords Go.Proofs.YtldpacphackdjaaDoorW.PrintLast Go.Proofs.YtldpacphackdjaaDoorW.PrintMore
set_option linter.unusedVariables false
set_option linter.unusedSimpArgs false
theorem row_own {w : World} {base : Nat} {ok : Nat → Prop} {v : Value} {xs : List S54} (h : Kd.R k54 54 w base ok v xs) : Kd.R k54 54 w base (fun k => v.ownBlock = some k) v xs :=
  ⟨fun k hk => hk, h.2.imp_ (fun x cs hm => by have e := k54_openM hm; subst e; exact k54_mkM _ _ _ x)⟩
theorem row_any {w : World} {base : Nat} {ok : Nat → Prop} {v : Value} {xs : List S54} (h : Kd.R k54 54 w base ok v xs) : Kd.R k54 54 w base (fun _ => True) v xs := Kd.R_mono h (fun _ _ => trivial)
theorem pchk_len {s : ByteArray} {b : Int} {l : List S54} (h : pchk s b l = 0) : l.length ≤ 1024 := by
  unfold pchk at h
  split at h
  · omega
  · omega
set_option maxHeartbeats 4000000 in
set_option maxRecDepth 100000 in
theorem begin_ok (A0 : Option Addr) (c0 : Nat) (l : List S54) (s : ByteArray) (b : Int) (w : World) (hr : Kd.C k54 w A0 l.length l) (hc : l.length ≤ c0) (h : pchk s b l = 0) :
    Calls Tryd.prog 37 #[.agg #[.string s, .int .i64 b, .slice A0 l.length c0]] w fun e w' => ∃ g Ao co, e = .returned (.tuple #[.pointer (some ⟨g, 0, none⟩), .int .i64 0]) ∧ w.heap.size ≤ g ∧ w'.heap[g]? = some (.cells #[.string s, .int .i64 b, .slice Ao l.length co] 82 (0, 0)) ∧
      Kd.R k54 54 w' w.heap.size (fun _ => True) (.slice Ao l.length co) l ∧ Below w.heap.size w w' := by
  have hu31 := Tryd.underlying31
  have hu82 := Tryd.underlying82
  have HR := Aside0.mk hr
  have HC := Aside0.mk hc
  have LN := Aside0.mk (pchk_len h)
  have A3 := Aside0.mk ((pcheck_is s b l 3000 (Nat.le_refl _)).trans (congrArg some h))
  have HB := Aside0.mk (Below.refl w.heap.size w)
  clear hr hc h
  go_enter Tryd.func37, Tryd.ntmps37
  go_wp2_with (first | ((with_reducible refine gate_dst (N := 1) rfl ?_); refine box_event ?hg (N := 1) ?hd (cs := #[.string s, .int .i64 b, .slice A0 l.length c0]) (t := 31) ?hr ?_; (case hd => rfl); (case hg => rfl); (case hr => first | (go_simp; done) | (go_simp; rfl)); intro gq hg w1 hbox hb; have n0_ := ls0 HB hb; have BKgq := Aside0.mk hbox; have GEgq := lz0 HB hg; clear HB; have HB := n0_; clear n0_ hb hbox hg; have hczgq0 := bc BKgq 0; have hfzgq0 := blk_frozen BKgq.out 0; have hczgq1 := bc BKgq 1; have hfzgq1 := blk_frozen BKgq.out 1; have hczgq2 := bc BKgq 2; have hfzgq2 := blk_frozen BKgq.out 2) | ((with_reducible refine gate_callee (f := 29) rfl ?_); refine goesL_ (some 6) rfl rfl Tryd.func29 (by kernel_rfl) rfl #[.agg #[.string s, .int .i64 b, .slice A0 l.length c0]] rfl (by (try simp only [List.map_toArray, List.map_cons, List.map_nil]); first | done | rfl | (simp only [List.length_drop, List.length_take]; rfl)) ?_; (with_reducible refine (prepaid_Check.calls 3000 s b _ _ l _ _ ?side1 ?side2 A3.out).mono ?_); (case side1 => exact Kd.C_below HR.out HB.out); (case side2 => exact HC.out); rintro e w2 ⟨rfl, hb⟩; refine ⟨_, rfl, ?_⟩; have m0_ := kl BKgq hb; have n0_ := ls1 HB GEgq hb; clear BKgq; have BKgq := m0_; clear m0_; clear HB; have HB := n0_; clear n0_ hb; clear hczgq0 hfzgq0 hczgq1 hfzgq1 hczgq2 hfzgq2; have hczgq0 := bc BKgq 0; have hfzgq0 := blk_frozen BKgq.out 0; have hczgq1 := bc BKgq 1; have hfzgq1 := blk_frozen BKgq.out 1; have hczgq2 := bc BKgq 2; have hfzgq2 := blk_frozen BKgq.out 2) | ((with_reducible refine gate_callee (f := 64) rfl ?_); refine goesL_ (some 12) rfl rfl Tryd.func64 (by kernel_rfl) rfl #[.slice A0 l.length c0] rfl (by (try simp only [List.map_toArray, List.map_cons, List.map_nil]); first | done | rfl | (simp only [List.length_drop, List.length_take]; rfl)) ?_; (with_reducible refine (clone_hold A0 c0 l _ (Kd.C_below HR.out HB.out) HC.out LN.out).mono ?_); rintro e w3 ⟨v0, rfl, hy, hb⟩; refine ⟨_, rfl, ?_⟩; have m0_ := kl BKgq hb; have n0_ := ls1 HB GEgq hb; have HO := Aside0.mk (Kd.R_lower hy (below_size (lb1 HB GEgq))); clear BKgq; have BKgq := m0_; clear m0_; clear HB; have HB := n0_; clear n0_ hb; clear hy; obtain ⟨Ao, co, eo⟩ := Kd.R_slice HO.out; subst eo; clear hczgq0 hfzgq0 hczgq1 hfzgq1 hczgq2 hfzgq2; have hczgq0 := bc BKgq 0; have hfzgq0 := blk_frozen BKgq.out 0; have hczgq1 := bc BKgq 1; have hfzgq1 := blk_frozen BKgq.out 1; have hczgq2 := bc BKgq 2; have hfzgq2 := blk_frozen BKgq.out 2) | ((with_reducible refine gate_store (t := 29) (p := 13) rfl ?_); refine store_event (t := 29) (p := 13) (v := .tmp 12) (w1 := (w3).setCell ⟨gq, 2, none⟩ (.slice Ao l.length co)) ?hg ?ho ?hn ?hr ?_; (case ho => rfl); (case hg => rfl); (case hn => rfl); (case hr => first | (go_simp; done) | (go_simp; rfl)); intro w4 hw_; have m0_ := Aside0.mk (show w4.heap[gq]? = some (.cells #[.string s, .int .i64 b, .slice Ao l.length co] 31 (0, 0)) from by rw [hw_]; exact (blk_set (BKgq.out) 2 _)); have n0_ := Aside0.mk (show Below w.heap.size w w4 from by rw [hw_]; exact (below_set (j := 2) (HB.out) GEgq.out)); have rHO_ := Aside0.mk (show Kd.R _ _ w4 _ (fun _ => True) _ _ from by rw [hw_]; exact row_any (Kd.R_far (p := ⟨gq, 2, none⟩) (row_own HO.out) (fun k_ hk_ e_ => (Ne.symm (Kd.R_ne HO.out BKgq.out (by decide))) (by rw [hk_]; exact congrArg some e_)) _)); clear BKgq; have BKgq := m0_; clear m0_; clear HB; have HB := n0_; clear HO; have HO := rHO_; clear rHO_; clear n0_ hw_; clear hczgq0 hfzgq0 hczgq1 hfzgq1 hczgq2 hfzgq2; have hczgq0 := bc BKgq 0; have hfzgq0 := blk_frozen BKgq.out 0; have hczgq1 := bc BKgq 1; have hfzgq1 := blk_frozen BKgq.out 1; have hczgq2 := bc BKgq 2; have hfzgq2 := blk_frozen BKgq.out 2) | ((with_reducible refine gate_dst (N := 16) rfl ?_); refine box_event ?hg (N := 16) ?hd (cs := #[.string s, .int .i64 b, .slice Ao l.length co]) (t := 82) ?hr ?_; (case hd => rfl); (case hg => rfl); (case hr => first | (go_simp; done) | (go_simp; rfl)); intro ga hg w5 hbox hb; have NEgq_ga := Aside0.mk (ne_of_old (g := gq) (g' := ga) (o := .cells #[.string s, .int .i64 b, .slice Ao l.length co] 31 (0, 0)) (kb BKgq) (by rw [hg])); have NOHO_ga := Aside0.mk (show (Value.slice Ao l.length co).ownBlock ≠ some ga from fun e_ => by have e1_ := Kd.R_lt HO.out ga e_; have e2_ := (show ga = _ from hg); omega); have m0_ := kl BKgq hb; have rHO_ := Aside0.mk (Kd.R_below HO.out hb); have n0_ := ls1 HB GEgq hb; have BKga := Aside0.mk hbox; have GEga := lz1 HB GEgq hg; clear BKgq; have BKgq := m0_; clear m0_; clear HB; have HB := n0_; clear HO; have HO := rHO_; clear rHO_; clear n0_ hb hbox hg; clear hczgq0 hfzgq0 hczgq1 hfzgq1 hczgq2 hfzgq2))
  go_ret2
  exact ⟨ga, Ao, co, rfl, GEga.out, BKga.out, HO.out, HB.out⟩
set_option maxHeartbeats 4000000 in
set_option maxRecDepth 100000 in
theorem begin_no (A0 : Option Addr) (c0 : Nat) (l : List S54) (s : ByteArray) (b c : Int) (w : World) (hr : Kd.C k54 w A0 l.length l) (hc : l.length ≤ c0) (h : pchk s b l = c) (hne : c ≠ 0) :
    Calls Tryd.prog 37 #[.agg #[.string s, .int .i64 b, .slice A0 l.length c0]] w fun e w' => e = .returned (.tuple #[.pointer none, .int .i64 c]) ∧ Below w.heap.size w w' := by
  have hu31 := Tryd.underlying31
  have hu82 := Tryd.underlying82
  have HR := Aside0.mk hr
  have HC := Aside0.mk hc
  have A3 := Aside0.mk ((pcheck_is s b l 3000 (Nat.le_refl _)).trans (congrArg some h))
  have HB := Aside0.mk (Below.refl w.heap.size w)
  have c4b0 : (c == 0) = false := beq_eq_false_iff_ne.mpr hne
  have c4b1 : (c != 0) = true := bne_iff_ne.mpr hne
  clear hr hc h hne
  go_enter Tryd.func37, Tryd.ntmps37
  go_wp2_with (first | ((with_reducible refine gate_dst (N := 1) rfl ?_); refine box_event ?hg (N := 1) ?hd (cs := #[.string s, .int .i64 b, .slice A0 l.length c0]) (t := 31) ?hr ?_; (case hd => rfl); (case hg => rfl); (case hr => first | (go_simp; done) | (go_simp; rfl)); intro gq hg w1 hbox hb; have n0_ := ls0 HB hb; have BKgq := Aside0.mk hbox; have GEgq := lz0 HB hg; clear HB; have HB := n0_; clear n0_ hb hbox hg; have hczgq0 := bc BKgq 0; have hfzgq0 := blk_frozen BKgq.out 0; have hczgq1 := bc BKgq 1; have hfzgq1 := blk_frozen BKgq.out 1; have hczgq2 := bc BKgq 2; have hfzgq2 := blk_frozen BKgq.out 2) | ((with_reducible refine gate_callee (f := 29) rfl ?_); refine goesL_ (some 6) rfl rfl Tryd.func29 (by kernel_rfl) rfl #[.agg #[.string s, .int .i64 b, .slice A0 l.length c0]] rfl (by (try simp only [List.map_toArray, List.map_cons, List.map_nil]); first | done | rfl | (simp only [List.length_drop, List.length_take]; rfl)) ?_; (with_reducible refine (prepaid_Check.calls 3000 s b _ _ l _ _ ?side1 ?side2 A3.out).mono ?_); (case side1 => exact Kd.C_below HR.out HB.out); (case side2 => exact HC.out); rintro e w2 ⟨rfl, hb⟩; refine ⟨_, rfl, ?_⟩; have m0_ := kl BKgq hb; have n0_ := ls1 HB GEgq hb; clear BKgq; have BKgq := m0_; clear m0_; clear HB; have HB := n0_; clear n0_ hb; clear hczgq0 hfzgq0 hczgq1 hfzgq1 hczgq2 hfzgq2))
  go_ret2
  exact ⟨rfl, HB.out⟩
/-- The place of a call's hold. -/
def placeH (ref : Int) (l : List S54) : Nat := (l.filter fun x => decide (x.f0 < ref)).length
theorem placeH_le (ref : Int) (l : List S54) : placeH ref l ≤ l.length := List.length_filter_le ..
theorem hFrom_above : ∀ (l : List S54) (p : Int), hFrom p l = true → ∀ x ∈ l, p < x.f0
  | [], _, _, x, hx => by cases hx
  | a :: t, p, h, x, hx => by
    simp only [hFrom, Bool.and_eq_true] at h
    have ha : p < a.f0 := by
      have h1 := h.1
      unfold holdB at h1
      simp only [Bool.and_eq_true, decide_eq_true_eq] at h1
      omega
    rcases List.mem_cons.1 hx with rfl | hx
    · exact ha
    · have := hFrom_above t a.f0 h.2 x hx
      omega
theorem placeH_at (ref : Int) : ∀ (l : List S54) (p : Int), hFrom p l = true → ∀ j : Nat, j < l.length → ((rd_T54 l j).f0 < ref ↔ j < placeH ref l)
  | [], _, _, j, hj => absurd hj (by simp)
  | a :: t, p, h, j, hj => by
    have hab := fun x hx => hFrom_above t a.f0 (by simp only [hFrom, Bool.and_eq_true] at h; exact h.2) x hx
    have h2 : hFrom a.f0 t = true := by simp only [hFrom, Bool.and_eq_true] at h; exact h.2
    by_cases ha : a.f0 < ref
    · have e : placeH ref (a :: t) = placeH ref t + 1 := by simp [placeH, List.filter_cons, ha]
      rw [e]
      cases j with
      | zero => simp [rd_T54, ha]
      | succ j =>
        have := placeH_at ref t a.f0 h2 j (by simpa using hj)
        have e2 : rd_T54 (a :: t) ((j + 1 : Nat) : Int) = rd_T54 t (j : Int) := by simp [rd_T54, show ((j : Int) + 1).toNat = j + 1 by omega]
        rw [e2, this]
        omega
    · have e1 : t.filter (fun x => decide (x.f0 < ref)) = [] := List.filter_eq_nil_iff.2 (fun x hx => by have := hab x hx; simp; omega)
      have e : placeH ref (a :: t) = 0 := by simp [placeH, List.filter_cons, ha, e1]
      rw [e]
      have hm : rd_T54 (a :: t) (j : Int) ∈ a :: t := by rw [rdH_is _ j hj]; exact List.getElem_mem hj
      constructor
      · intro hlt
        rcases List.mem_cons.1 hm with e | hm
        · rw [e] at hlt; omega
        · have := hab _ hm; omega
      · intro h; omega
set_option maxHeartbeats 4000000 in
set_option maxRecDepth 100000 in
theorem hold_calls (g : Nat) (c0 c1 : Value) (Ao : Option Addr) (co : Nat) (l : List S54) (ref : Int) (w : World) (base : Nat) (hb : w.heap[g]? = some (.cells #[c0, c1, .slice Ao l.length co] 82 (0, 0))) (hr : Kd.R k54 54 w base (fun _ => True) (.slice Ao l.length co) l) (hl : l.length ≤ 1024) (hf : hFrom 0 l = true) {i : Nat} (hi : placeH ref l = i) {f : Bool} (hff : (decide (i < l.length) && decide ((rd_T54 l i).f0 = ref)) = f) :
    Calls Tryd.prog 39 #[.pointer (some ⟨g, 0, none⟩), .int .i64 ref] w fun e w' => e = .returned (.tuple #[.int .i64 (i : Int), .bool f]) ∧ Below w.heap.size w w' := by
  have hu31 := Tryd.underlying31
  have hu82 := Tryd.underlying82
  have hc2 : w.cell? ⟨g, 2, none⟩ = some (.slice Ao l.length co) := (blk_cell hb 2).trans rfl
  have BS := Aside0.mk (bsearch_hold Ao co l ref i w (Kd.R_reads' hr).2.2 (by rw [← hi]; exact placeH_le _ _) hl (fun j hj => by rw [← hi]; exact placeH_at ref l 0 hf j hj))
  rw [hff] at BS
  clear hb hr hl hf hi hff
  go_enter Tryd.func39, Tryd.ntmps39
  go_wp2_with ((with_reducible refine gate_callee (f := 65) rfl ?_); refine goesL_ (some 12) rfl rfl Tryd.func65 (by kernel_rfl) rfl #[.slice Ao l.length co, .int .i64 ref, .func (.func 66) #[] #[]] rfl (by (try simp only [List.map_toArray, List.map_cons, List.map_nil]); first | done | rfl) ?_; (with_reducible refine (BS.out).mono ?_); rintro e w1 ⟨rfl, hb⟩; refine ⟨_, rfl, ?_⟩; have END := Aside0.mk hb; clear hb hc2)
  go_ret2
  exact ⟨rfl, END.out⟩
end Go.Proofs.YtldpacphackdjaaDoor.Print
/- That prepaid.Deposit answers what its Lean function answers. -/
namespace Go.Proofs.YtldpacphackdjaaDoor.Print
open Go.RowKit Go.Proofs.YtldpacphackdjaaDoorW.PrintWords Go.Proofs.YtldpacphackdjaaDoorW.PrintLast Go.Proofs.YtldpacphackdjaaDoorW.PrintMore
set_option linter.unusedVariables false
set_option linter.unusedSimpArgs false
theorem pwithin_below (n low : Int) {r : Bool} (h : decide (low ≤ n ∧ n ≤ 1099511627776) = r) (w : World) : Calls Tryd.prog 38 #[.int .i64 n, .int .i64 low] w fun e w' => e = .returned (.bool r) ∧ Below w.heap.size w w' :=
  (prepaid_within.calls n low r w ((pwithin_is n low).trans (congrArg some h))).mono (by
    rintro e w' ⟨rfl, ⟨nd, rfl⟩⟩
    exact ⟨rfl, pw_below_drewN (Below.refl _ _) nd⟩)
theorem sumU_bd : ∀ (l : List S54) (p : Int), hFrom p l = true → 0 ≤ sumU l ∧ sumU l ≤ l.length * 1099511627776
  | [], _, _ => by simp [sumU]
  | a :: t, p, h => by
    simp only [hFrom, Bool.and_eq_true] at h
    have ih := sumU_bd t a.f0 h.2
    have h1 := h.1
    unfold holdB at h1
    simp only [Bool.and_eq_true, decide_eq_true_eq] at h1
    have e : sumU (a :: t) = a.f1 + sumU t := by simp [sumU]
    rw [e, List.length_cons]
    omega
theorem worthW_is : ∀ (l : List S54) (p b : Int), hFrom p l = true → l.length ≤ 2000 → 0 ≤ b → b + l.length * 1099511627776 ≤ 4611686018427387904 → worthW b l = b + sumU l
  | [], _, b, _, _, _, _ => by simp [worthW, sumU]
  | a :: t, p, b, h, hl, h0, h1 => by
    simp only [hFrom, Bool.and_eq_true] at h
    have h2 := h.1
    unfold holdB at h2
    simp only [Bool.and_eq_true, decide_eq_true_eq] at h2
    rw [List.length_cons] at h1 hl
    have ew : wrap64 (b + a.f1) = b + a.f1 := by unfold wrap64; omega
    have ih := worthW_is t a.f0 (b + a.f1) h.2 (by omega) (by omega) (by omega)
    have e : sumU (a :: t) = a.f1 + sumU t := by simp [sumU]
    have e2 : worthW b (a :: t) = worthW (wrap64 (b + a.f1)) t := rfl
    rw [e2, ew, ih, e]
    omega
structure Acc (s : ByteArray) (b : Int) (l : List S54) : Prop where
  len : l.length ≤ 1024
  num : numB s = true
  bal : 0 ≤ b ∧ b ≤ 1099511627776
  holds : hFrom 0 l = true
  sum : b + sumU l ≤ 1099511627776
theorem acc_worth {b : Int} {l : List S54} (hl : l.length ≤ 1024) (hb : 0 ≤ b ∧ b ≤ 1099511627776) (hh : hFrom 0 l = true) : worthW b l = b + sumU l := worthW_is l 0 b hh (by omega) hb.1 (by omega)
theorem pchk_zero (s : ByteArray) (b : Int) (l : List S54) : pchk s b l = 0 ↔ Acc s b l := by
  unfold pchk
  constructor
  · intro h
    split at h
    · omega
    · split at h
      · rename_i h1 h2
        have := acc_worth (by omega) h2.2.1 h2.2.2.1
        exact ⟨by omega, h2.1, h2.2.1, h2.2.2.1, by rw [← this]; exact h2.2.2.2⟩
      · omega
  · intro h
    rw [if_neg (by have := h.len; omega), if_pos ⟨h.num, h.bal, h.holds, by rw [acc_worth h.len h.bal h.holds]; exact h.sum⟩]
end Go.Proofs.YtldpacphackdjaaDoor.Print
