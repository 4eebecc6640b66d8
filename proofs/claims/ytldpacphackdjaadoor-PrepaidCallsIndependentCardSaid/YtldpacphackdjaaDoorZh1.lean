/- That the printed law PrepaidCallsIndependent answers true at every account, tariff, call, time and number of units. No condition that the law itself does not guard. -/
import Derived.Test.YtldpacphackdjaaDoorZa6
import Derived.Test.YtldpacphackdjaaDoorZj1
import Derived.Test.YtldpacphackdjaaDoorZhF6
namespace Go.Proofs.YtldpacphackdjaaDoor.Print
open Go.RowKit Go.Proofs.YtldpacphackdjaaDoorW.PrintWords Go.Proofs.YtldpacphackdjaaDoorW.PrintLast Go.Proofs.YtldpacphackdjaaDoorW.PrintMore
set_option linter.unusedVariables false
set_option linter.unusedSimpArgs false
/-- Every hold of another call stands in the list as it did. -/
def Keeps (ref : Int) (l x : List S54) : Prop := hFrom 0 x = true ∧ x.length ≤ 1024 ∧ ∀ h ∈ l, h.f0 ≠ ref → h ∈ x
theorem keeps_find {ref : Int} {l x : List S54} (hk : Keeps ref l x) (i : Nat) (hi : i < l.length) (hne : (rd_T54 l (i : Int)).f0 ≠ ref) (s : ByteArray) (b : Int) (k : Nat) (hk2 : 2000 ≤ k) :
    ∃ m : Nat, crossbarref28_Find.f k s b x (rd_T54 l (i : Int)).f0 = some (m : Int) ∧ m < x.length ∧ rd_T54 x (m : Int) = rd_T54 l (i : Int) := by
  obtain ⟨h1, h2, h3⟩ := hk
  obtain ⟨m, hm, e⟩ := rd_of_mem (h3 _ (mem_rd l i hi) hne)
  have hf := (found_iff h1 (rd_T54 l (i : Int)).f0).2 ⟨m, hm, by rw [e]⟩
  have hp := place_of h1 (rd_T54 l (i : Int)).f0 m hm (by rw [e])
  exact ⟨m, by rw [find_sorted h1 (by omega) _ s b k (by omega), if_pos hf, hp], hm, e⟩
theorem find_some (ref : Int) (s : ByteArray) (b : Int) (l : List S54) (hl : l.length ≤ 1100) (k : Nat) (hk : 2000 ≤ k) : ∃ r, crossbarref28_Find.f k s b l ref = some r := by
  obtain ⟨r, h, _⟩ := find_is ref s b l (by omega) k (by omega)
  exact ⟨r, h⟩
theorem eq_hold (z : S54) : (!(z.f0 == z.f0) || (!(z.f1 == z.f1) || !(z.f2 == z.f2))) = false := by simp
theorem indep_l0 {ref e f : Int} {s : ByteArray} {b : Int} {l : List S54} {sx : ByteArray} {bx : Int} {x : List S54} {sy : ByteArray} {by_ : Int} {y : List S54} (hl : l.length ≤ 1100) (hxl : x.length ≤ 1100) (hyl : y.length ≤ 1100) (hx : e = 0 → Keeps ref l x) (hy : f = 0 → Keeps ref l y)
    (hend : ∀ k, 2000 ≤ k → (if e = 0 then (crossbarref28_Find.f k s b l ref).bind fun t => crossbarlaw28_PrepaidCallsIndependent.j1 k ref (decide (t ≥ 0)) s b l sx bx x else crossbarlaw28_PrepaidCallsIndependent.j1 k ref true s b l sx bx x) = some true) :
    ∀ (d j k : Nat), l.length - j = d → d + 2100 ≤ k → crossbarlaw28_PrepaidCallsIndependent.l0 k ref e f (j : Int) s b l sx bx x sy by_ y = some true := by
  intro d
  induction d with
  | zero =>
    intro j k hd hk
    obtain ⟨k, rfl⟩ : ∃ i, k = i + 1 := ⟨k - 1, by omega⟩
    simp only [crossbarlaw28_PrepaidCallsIndependent.l0]
    rw [if_neg (by omega)]
    exact hend k (by omega)
  | succ d ih =>
    intro j k hd hk
    obtain ⟨k, rfl⟩ : ∃ i, k = i + 1 := ⟨k - 1, by omega⟩
    have hj : j < l.length := by omega
    have hn := ih (j + 1) k (by omega) (by omega)
    simp only [crossbarlaw28_PrepaidCallsIndependent.l0]
    rw [if_pos (by omega), if_pos (by omega), pw1 (by omega), hn]
    by_cases hr : (rd_T54 l (j : Int)).f0 = ref
    · rw [if_pos hr]
    · rw [if_neg hr]
      have ytail : (∃ n : Int, crossbarref28_Find.f k sy by_ y (rd_T54 l (j : Int)).f0 = some n ∧ (f = 0 → ∃ m : Nat, n = m ∧ m < y.length ∧ rd_T54 y (m : Int) = rd_T54 l (j : Int))) := by
        by_cases hf : f = 0
        · obtain ⟨m, h1, h2, h3⟩ := keeps_find (hy hf) j hj hr sy by_ k (by omega)
          exact ⟨m, h1, fun _ => ⟨m, rfl, h2, h3⟩⟩
        · obtain ⟨r, h1⟩ := find_some (rd_T54 l (j : Int)).f0 sy by_ y hyl k (by omega)
          exact ⟨r, h1, fun h => absurd h hf⟩
      obtain ⟨n, hn1, hn2⟩ := ytail
      have hyy : (if f = 0 then (if n < 0 then (some false) else (if 0 ≤ n then (if n < (y.length : Int) then (if (!(((rd_T54 y n).f0) == ((rd_T54 l (j : Int)).f0)) || (!(((rd_T54 y n).f1) == ((rd_T54 l (j : Int)).f1)) || (!(((rd_T54 y n).f2) == ((rd_T54 l (j : Int)).f2))))) = true then (some false) else (some true)) else (none)) else (none))) else (some true)) = some true := by
        by_cases hf : f = 0
        · obtain ⟨m, rfl, h2, h3⟩ := hn2 hf
          rw [if_pos hf, if_neg (by omega), if_pos (by omega), if_pos (by omega), h3, eq_hold, if_neg (by simp)]
        · rw [if_neg hf]
      by_cases he : e = 0
      · obtain ⟨m, h1, h2, h3⟩ := keeps_find (hx he) j hj hr sx bx k (by omega)
        rw [h1, Option.bind_some, hn1, Option.bind_some, if_pos he, if_neg (by omega), if_pos (by omega), if_pos (by omega), h3, eq_hold, if_neg (by simp)]
        exact hyy
      · obtain ⟨r, h1⟩ := find_some (rd_T54 l (j : Int)).f0 sx bx x hxl k (by omega)
        rw [h1, Option.bind_some, hn1, Option.bind_some, if_neg he]
        exact hyy
theorem keeps_put {s : ByteArray} {b : Int} {l : List S54} {tl : List S70} {ref now : Int} (h : ROk s b l tl ref now) : Keeps ref l (putH b l tl ref now) := by
  refine ⟨put_from h, (put_len h).1, fun x hx hne => ?_⟩
  rw [← put_is h.acc.holds]
  simp only [List.mem_append, List.mem_filter, List.mem_cons, decide_eq_true_eq]
  by_cases hlt : x.f0 < ref
  · exact .inl ⟨hx, hlt⟩
  · exact .inr (.inr ⟨hx, by omega⟩)
theorem keeps_drop {s : ByteArray} {b : Int} {l : List S54} {ref : Int} (h : Acc s b l) (hf : foundH ref l = true) : Keeps ref l (dropH (placeH ref l) l) := by
  have hi := found_lt hf
  have hl := h.len
  refine ⟨hFrom_drop h.holds _ hi, by rw [length_drop l _ hi]; omega, fun x hx hne => ?_⟩
  rw [← filter_ne h.holds ref hf]
  simp only [List.mem_filter, Bool.not_eq_true', decide_eq_false_iff_not]
  exact ⟨hx, hne⟩
theorem drop_new {l : List S54} {i : Nat} (hi : i ≤ l.length) (x y : S54) : dropH i ((l.take i ++ x :: l.drop i).set i y) = l := by
  have h1 : (l.take i).length = i := by simp [hi]
  have e : (l.take i ++ x :: l.drop i).set i y = l.take i ++ y :: l.drop i := by
    rw [List.set_append_right _ _ (by omega), h1, Nat.sub_self]
    rfl
  unfold dropH
  rw [e, drop_put l i hi y, List.take_append_of_le_length (by omega), List.take_take, Nat.min_self, List.take_append_drop]
theorem indep_j1 {s : ByteArray} {b : Int} {l : List S54} {tl : List S70} {ref now : Int} (h : ROk s b l tl ref now) (hf : foundH ref l = false) (k : Nat) (hk : 1900 ≤ k) :
    crossbarlaw28_PrepaidCallsIndependent.j1 k ref false s b l s (b - cost b l tl ref now) (putH b l tl ref now) = some true := by
  obtain ⟨k, rfl⟩ : ∃ i, k = i + 1 := ⟨k - 1, by omega⟩
  have hb := h.acc.bal
  have hlen := h.acc.len
  have hc := cost_bd (ref := ref) h.acc h.hg h.now1 h.now2
  have hpl := (put_len h).2.2 hf
  have hpf := put_found h
  simp only [crossbarlaw28_PrepaidCallsIndependent.j1]
  rw [if_neg (by simp), settle_ok (acc_reserve h) ref 0 (by omega) hpf.1, Option.bind_some]
  simp only
  have hu : unH ref now l = 0 := by unfold unH; rw [(at_new hf).2]
  have hd : dropH (placeH ref l) (putH b l tl ref now) = l := by
    unfold putH
    rw [(at_new hf).1]
    exact drop_new (placeH_le _ _) _ _
  rw [if_pos trivial, hpf.2, rd_put_place, hd, hu]
  simp only
  rw [restB_is (by omega) (by omega) (by omega) (by omega) (by omega), show mx 0 (b - cost b l tl ref now + (0 + cost b l tl ref now) - 0) = b by unfold mx; split <;> omega, same_refl s b l (by omega) k (by omega), Option.bind_some, if_pos rfl, hpl, pw1 (by omega)]
  simp
theorem PrepaidCallsIndependent_pure (s : ByteArray) (b : Int) (l : List S54) (tl : List S70) (ref now used : Int) (hs : s.size ≤ maxLen) (hb : Rng b) (hn : l.length ≤ 9223372036854775807) (hw : ∀ x ∈ l, Rng x.f0 ∧ Rng x.f1 ∧ Rng x.f2) (hn1 : tl.length ≤ 9223372036854775807) (hw1 : ∀ x ∈ tl, Rng x.f0 ∧ Rng x.f1) (w1 : (Lit.int .i64 ref).wf = true) (w2 : (Lit.int .i64 now).wf = true) (w3 : (Lit.int .i64 used).wf = true) : ∃ k, crossbarlaw28_PrepaidCallsIndependent.f k s b l tl ref now used = some true := by
  refine ⟨6000, ?_⟩
  unfold crossbarlaw28_PrepaidCallsIndependent.f
  rw [sane28_is 6000 (by omega), Option.bind_some, if_pos rfl, few28_is, Option.bind_some]
  by_cases hf : l.length ≤ 1100 ∧ s.size ≤ 100 ∧ tl.length ≤ 100
  · rw [if_pos (decide_eq_true hf)]
    have hY : ∃ r1 r2 r3 r4, prepaid_Settle.f s b l ref used = some (r1, r2, r3, r4) ∧ r3.length ≤ 1100 ∧ (r4 = 0 → Keeps ref l r3) := by
      by_cases hok : Acc s b l ∧ 0 ≤ used ∧ foundH ref l = true
      · have hk := keeps_drop hok.1 hok.2.2
        exact ⟨_, _, _, _, settle_ok hok.1 ref used hok.2.1 hok.2.2, by have := hk.2.1; omega, fun _ => hk⟩
      · obtain ⟨e, he, hne, _⟩ := settle_no ref used hok
        exact ⟨_, _, _, _, he, by simp, fun h => absurd h hne⟩
    obtain ⟨y1, y2, y3, y4, hy, hyl, hyk⟩ := hY
    by_cases hok : ROk s b l tl ref now
    · have hk := keeps_put hok
      rw [reserve_ok hok, Option.bind_some, hy, Option.bind_some]
      refine indep_l0 (by omega) (by have := hk.2.1; omega) hyl (fun _ => hk) hyk (fun k hk2 => ?_) l.length 0 6000 (by omega) (by omega)
      rw [if_pos rfl, find_sorted hok.acc.holds (by omega) ref s b k (by omega), Option.bind_some]
      cases hfo : foundH ref l with
      | true =>
        obtain ⟨k, rfl⟩ : ∃ i, k = i + 1 := ⟨k - 1, by omega⟩
        rw [if_pos rfl, decide_eq_true (by omega)]
        simp only [crossbarlaw28_PrepaidCallsIndependent.j1]
        rw [if_pos trivial]
      | false =>
        rw [if_neg (by simp), decide_eq_false (by omega)]
        exact indep_j1 hok hfo k (by omega)
    · obtain ⟨e, he, hne⟩ := reserve_err hok
      rw [he, Option.bind_some, hy, Option.bind_some]
      refine indep_l0 (by omega) (by simp) hyl (fun h => absurd h hne) hyk (fun k hk2 => ?_) l.length 0 6000 (by omega) (by omega)
      obtain ⟨k, rfl⟩ : ∃ i, k = i + 1 := ⟨k - 1, by omega⟩
      rw [if_neg hne]
      simp only [crossbarlaw28_PrepaidCallsIndependent.j1]
      rw [if_pos trivial]
  · rw [if_neg (by simpa using hf)]
end Go.Proofs.YtldpacphackdjaaDoor.Print
