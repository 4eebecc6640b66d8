/- That timers.split parts a list of timers by a predicate that its closure decides, for every list of at most 2^40 timers. -/
import Derived.Test.YtldpacphackdjaaK0
namespace Go.Proofs.Ytldpacphackdjaa.Print
open Go.RowKit Go.Proofs.YtldpacphackdjaaW.PrintWords Go.Proofs.YtldpacphackdjaaW.PrintLast Go.Proofs.YtldpacphackdjaaW.PrintMore
set_option linter.unusedVariables false
set_option linter.unusedSimpArgs false

theorem timer_own {w : World} {base : Nat} {ok : Nat → Prop} {v : Value} {xs : List S64} (h : Kd.R k64 64 w base ok v xs) : Kd.R k64 64 w base (fun k => v.ownBlock = some k) v xs :=
  ⟨fun k hk => hk, h.2.imp_ (fun x cs hm => by have e := k64_openM hm; subst e; exact k64_mkM _ _ _ x)⟩
theorem timer_lt {w : World} {base : Nat} {ok : Nat → Prop} {v : Value} {xs : List S64} (h : Kd.R k64 64 w base ok v xs) (k : Nat) (hk : v.ownBlock = some k) : k < w.heap.size := (Kd.R_bound h).1 k hk |>.2.2.1
theorem timer_any {w : World} {base : Nat} {ok : Nat → Prop} {v : Value} {xs : List S64} (h : Kd.R k64 64 w base ok v xs) : Kd.R k64 64 w base (fun _ => True) v xs := Kd.R_mono h (fun _ _ => trivial)
theorem cell_fresh (W : World) (cs : Array Value) (t : TypeId) (i : Nat) : (W.alloc (.cells cs t)).cell? ⟨W.heap.size, i, none⟩ = cs[i]? := by
  rw [World.cell?_alloc_at _ _ _ _ rfl]
/-- Two rows in different blocks. -/
def Apart2 (v u : Value) : Prop := ∀ k, v.ownBlock = some k → u.ownBlock ≠ some k
/-- A row that is not the one that was written. -/
theorem timer_other {w w1 : World} {base : Nat} {ok : Nat → Prop} {v u : Value} {xs : List S64} (h : Kd.R k64 64 w base ok u xs) (hg : w.grownBy w1 v.ownBlock) (ha : Apart2 v u) : Kd.R k64 64 w1 base (fun _ => True) u xs :=
  timer_any (Kd.R_grown (timer_own h) hg (fun k hk he => ha k he.symm hk))
theorem apart_grown {w : World} {base : Nat} {ok : Nat → Prop} {v v1 u : Value} {xs : List S64} (h : Kd.R k64 64 w base ok u xs) (ha : Apart2 v u) (hat : v1.ownBlock = v.ownBlock ∨ ∃ b, v1.ownBlock = some b ∧ w.heap.size ≤ b) : Apart2 v1 u := by
  intro k hk he
  rcases hat with hat | ⟨b, hb, hlt⟩
  · exact ha k (hat ▸ hk) he
  · rw [hb] at hk
    obtain rfl := Option.some.inj hk
    have := timer_lt h _ he
    omega
theorem Apart2.symm {v u : Value} (h : Apart2 v u) : Apart2 u v := fun k hk he => h k he hk
theorem take_filter (l : List S64) (p : S64 → Bool) (j : Nat) (hj : j < l.length) : (l.take (j + 1)).filter p = (l.take j).filter p ++ (if p (rd_T64 l (j : Int)) = true then [rd_T64 l (j : Int)] else []) := by
  rw [List.take_succ_eq_append_getElem hj, List.filter_append]
  have : rd_T64 l (j : Int) = l[j] := by simp [rd_T64, List.getD_eq_getElem?_getD, List.getElem?_eq_getElem hj]
  rw [this]
  simp [List.filter_cons]

set_option maxHeartbeats 4000000 in
set_option maxRecDepth 100000 in
theorem split_calls (A0 : Option Addr) (c0 : Nat) (l : List S64) (g ab : Nat) (p : S64 → Bool) (w : World) (hr : Kd.C k64 w A0 l.length l) (hlen : l.length ≤ 1099511627776)
    (eg : ∀ args w, (callFunc g args).run Try.prog w = .ok (.enter g args) w)
    (hp : ∀ W, Below w.heap.size w W → ∀ x : S64, Calls Try.prog g #[.agg #[.int .i64 x.f0, .int .i64 x.f1], .pointer (some ⟨ab, 0, none⟩)] W fun e w' => e = .returned (.bool (p x)) ∧ Below W.heap.size W w') :
    Calls Try.prog 64 #[.slice A0 l.length c0, .func (.func g) #[] #[.pointer (some ⟨ab, 0, none⟩)]] w fun e w' => ∃ v0_ v1_ : Value, e = .returned (.tuple #[v0_, v1_]) ∧
      Kd.R k64 64 w' w.heap.size (fun _ => True) v0_ (l.filter p) ∧ Kd.R k64 64 w' w.heap.size (fun _ => True) v1_ (l.filter fun x => !p x) ∧ Below w.heap.size w w' := by
  have hu := Try.underlying64
  have HR := Aside0.mk hr
  have HP := Aside0.mk hp
  have B0 := Aside0.mk (Below.refl w.heap.size w)
  clear hr hp
  have hle1 : ∀ j, ((l.take j).filter p).length ≤ l.length := fun j => Nat.le_trans (List.length_filter_le ..) (by simp; omega)
  have hle2 : ∀ j, ((l.take j).filter fun x => !p x).length ≤ l.length := fun j => Nat.le_trans (List.length_filter_le ..) (by simp; omega)
  have HL1 := Aside0.mk hle1
  have HL2 := Aside0.mk hle2
  clear hle1 hle2
  go_enter Try.func64, Try.ntmps64
  go_wp2
  go_loopg [4, 5, 10] l.length (fun kx v4 v5 s10 wr => ∃ j : Nat, s10 = .int .i64 j ∧ j ≤ l.length ∧ l.length - j ≤ kx ∧ Aside0 (Kd.R k64 64 wr w.heap.size (fun _ => True) v4 ((l.take j).filter p)) ∧ Aside0 (Kd.R k64 64 wr w.heap.size (fun _ => True) v5 ((l.take j).filter fun x => !p x)) ∧ Aside0 (Apart2 v4 v5) ∧ Aside0 (Below w.heap.size w wr))
  case atStart => exact ⟨0, rfl, Nat.zero_le _, Nat.le_refl _, ⟨Kd.R_nil _ _ _ _ _⟩, ⟨Kd.R_nil _ _ _ _ _⟩, ⟨fun k hk => by simp [Value.ownBlock] at hk⟩, B0⟩
  case round =>
    clear B0
    obtain ⟨j, rfl, hj, hk, HO4, HO5, HA, HB⟩ := hrel
    by_cases hlt : j < l.length
    · obtain ⟨ad, e1, c1, c2⟩ := at_T64 HR.out (j : Int) (by omega) (by omega)
      cases e1
      replace c1 := (HB.out.cell (World.block_lt_of_cell? w _ c1)).trans c1
      replace c2 := (HB.out.cell (World.block_lt_of_cell? w _ c2)).trans c2
      rw [Int.toNat_natCast] at c1 c2
      have t1 := take_filter l p j hlt
      have t2 := take_filter l (fun x => !p x) j hlt
      obtain ⟨x, hx⟩ : ∃ x, rd_T64 l (j : Int) = x := ⟨_, rfl⟩
      rw [hx] at c1 c2 t1 t2
      have HPx := Aside0.mk (fun W hW => HP.out W hW x)
      cases hpx : p x with
      | true =>
        rw [hpx, if_pos rfl] at t1
        rw [hpx, if_neg (by simp), List.append_nil] at t2
        rw [hpx] at HPx
        obtain ⟨x0, x1⟩ := x
        simp only at c1 c2 HPx
        have T1 := Aside0.mk t1
        have T2 := Aside0.mk t2
        clear t1 t2 hpx hx
        go_wp2_with fail
        refine (HPx.out _ (below_alloc HB.out _)).mono ?_
        rintro e w2 ⟨rfl, hb⟩
        have hn0 := (hb.cell (p := ⟨wr.heap.size, 0, none⟩) (by simp)).trans (cell_fresh wr #[.int .i64 x0, .int .i64 x1] 64 _)
        have hn1 := (hb.cell (p := ⟨wr.heap.size, 1, none⟩) (by simp)).trans (cell_fresh wr #[.int .i64 x0, .int .i64 x1] 64 _)
        replace hn0 : w2.cell? ⟨wr.heap.size, 0, none⟩ = some (.int .i64 x0) := hn0.trans rfl
        replace hn1 : w2.cell? ⟨wr.heap.size, 1, none⟩ = some (.int .i64 x1) := hn1.trans rfl
        have hO4 := Aside0.mk (Kd.R_below (Kd.R_alloc HO4.out _) hb)
        have hO5 := Aside0.mk (Kd.R_below (Kd.R_alloc HO5.out _) hb)
        have hB2 := Aside0.mk (below_step (below_alloc HB.out _) hb)
        clear hb HO4 HO5 HB HPx
        go_wp2_with ((with_reducible refine gate_builtin (b := .append) (xs := #[.tmp 17, .tmp 19]) rfl ?_); at_builtin; refine Kd.R_append k64 (w0 := w) w.heap.size rfl (.tmp 17) (.tmp 19) 43 64 (.agg #[(.int .i64 0), (.int .i64 0)]) 16 rfl Try.underlying43 info64 rfl (by decide) (by omega) u4 ((l.take j).filter p) (⟨x0, x1⟩ : S64) [.int .i64 x0, .int .i64 x1] (fun _ => True) (fun _ => False) rfl rfl ?aP (fun _ hk => hk.elim) ?aF ?aO ?aB ?aS ?aL ?_; (case aP => exact k64_mkM _ _ _ (⟨x0, x1⟩ : S64)); (case aB => exact hB2.out); (case aF => exact (fun _ _ => trivial)); (case aO => exact hO4.out); (case aS => exact below_size hB2.out); (case aL => have := HL1.out j; omega); intro v3 w3 ho hb hg hat; have n0_ := Aside0.mk hb; have n1_ := Aside0.mk ho; have n2_ := Aside0.mk (timer_other hO5.out hg (HA.out)); have n3_ := Aside0.mk (apart_grown hO5.out (HA.out) hat); clear ho hb hg hat)
        go_roundg (l.length - (j + 1))
        case measure => omega
        case rel => exact ⟨j + 1, by go_num, by omega, Nat.le_refl _, ⟨by rw [T1.out]; exact n1_.out⟩, ⟨by rw [T2.out]; exact n2_.out⟩, ⟨n3_.out⟩, n0_⟩
      | false =>
        rw [hpx, if_neg (by simp), List.append_nil] at t1
        rw [hpx, if_pos (by simp)] at t2
        rw [hpx] at HPx
        obtain ⟨x0, x1⟩ := x
        simp only at c1 c2 HPx
        have T1 := Aside0.mk t1
        have T2 := Aside0.mk t2
        clear t1 t2 hpx hx
        go_wp2_with fail
        refine (HPx.out _ (below_alloc HB.out _)).mono ?_
        rintro e w2 ⟨rfl, hb⟩
        have hn0 := (hb.cell (p := ⟨wr.heap.size, 0, none⟩) (by simp)).trans (cell_fresh wr #[.int .i64 x0, .int .i64 x1] 64 _)
        have hn1 := (hb.cell (p := ⟨wr.heap.size, 1, none⟩) (by simp)).trans (cell_fresh wr #[.int .i64 x0, .int .i64 x1] 64 _)
        replace hn0 : w2.cell? ⟨wr.heap.size, 0, none⟩ = some (.int .i64 x0) := hn0.trans rfl
        replace hn1 : w2.cell? ⟨wr.heap.size, 1, none⟩ = some (.int .i64 x1) := hn1.trans rfl
        have hO4 := Aside0.mk (Kd.R_below (Kd.R_alloc HO4.out _) hb)
        have hO5 := Aside0.mk (Kd.R_below (Kd.R_alloc HO5.out _) hb)
        have hB2 := Aside0.mk (below_step (below_alloc HB.out _) hb)
        clear hb HO4 HO5 HB HPx
        go_wp2_with ((with_reducible refine gate_builtin (b := .append) (xs := #[.tmp 21, .tmp 23]) rfl ?_); at_builtin; refine Kd.R_append k64 (w0 := w) w.heap.size rfl (.tmp 21) (.tmp 23) 43 64 (.agg #[(.int .i64 0), (.int .i64 0)]) 16 rfl Try.underlying43 info64 rfl (by decide) (by omega) u5 ((l.take j).filter (fun x => !p x)) (⟨x0, x1⟩ : S64) [.int .i64 x0, .int .i64 x1] (fun _ => True) (fun _ => False) rfl rfl ?aP (fun _ hk => hk.elim) ?aF ?aO ?aB ?aS ?aL ?_; (case aP => exact k64_mkM _ _ _ (⟨x0, x1⟩ : S64)); (case aB => exact hB2.out); (case aF => exact (fun _ _ => trivial)); (case aO => exact hO5.out); (case aS => exact below_size hB2.out); (case aL => have := HL2.out j; omega); intro v3 w3 ho hb hg hat; have n0_ := Aside0.mk hb; have n1_ := Aside0.mk ho; have n2_ := Aside0.mk (timer_other hO4.out hg (HA.out.symm)); have n3_ := Aside0.mk (apart_grown hO4.out (HA.out.symm) hat); clear ho hb hg hat)
        go_roundg (l.length - (j + 1))
        case measure => omega
        case rel => exact ⟨j + 1, by go_num, by omega, Nat.le_refl _, ⟨by rw [T1.out]; exact n2_.out⟩, ⟨by rw [T2.out]; exact n1_.out⟩, ⟨n3_.out.symm⟩, n0_⟩
    · obtain rfl : j = l.length := by omega
      rw [List.take_length] at HO4 HO5
      go_wp2
      go_ret2
      exact ⟨_, _, rfl, HO4.out, HO5.out, HB.out⟩
end Go.Proofs.Ytldpacphackdjaa.Print
