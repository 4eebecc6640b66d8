/- Parts of the proofs of layer 28's laws, joined in one file by a program of the session; each part begins with its own sentence. -/
import Derived.Test.YtldpacphackdjaaDoorVaHMAdv
import Derived.Test.YtldpacphackdjaaDoorVaHMBegin
import Derived.Test.YtldpacphackdjaaDoorVa5
import Derived.BigRegion
/- That meter.Advance at the one meter leaves it as it is where nothing changes, and cuts one record where the one change is at the time. Conditions: those of its Lean function. -/
namespace Go.Proofs.YtldpacphackdjaaDoor.Print
open Go.RowKit Go.Proofs.YtldpacphackdjaaDoorW.PrintWords Go.Proofs.YtldpacphackdjaaDoorW.PrintLast Go.Proofs.YtldpacphackdjaaDoorW.PrintMore
set_option linter.unusedVariables false
set_option linter.unusedSimpArgs false
theorem clone_one (ad : Addr) (c : Nat) (since : Int) (w : World) (hr : Kd.C k38 w (some ad) 1 [Mt since]) (hc : 1 ≤ c) : Calls Tryd.prog 44 #[.slice (some ad) 1 c] w fun e w' => ∃ v, e = .returned v ∧ Kd.R k38 38 w' w.heap.size (fun _ => True) v [Mt since] ∧ Below w.heap.size w w' :=
  clone_meter (some ad) c [Mt since] w hr hc (by simp)
def meter_Advance.T12 : Bool × List (List Nat × List Nat) := (true, [([], []), ([], []), ([1], [1]), ([2], [2]), ([3], [3]), ([0, 0], [0]), ([4, 5, 0, 1, 2, 3, 4, 5], [4]), ([6, 0, 1, 2, 3, 4, 5, 6], [])])
def meter_Advance.B12 : List Nat := [0, 0, 2, 6, 14, 1, 63, 127]
theorem meter_Advance.tab12 : rtab .any (opsOf Tryd.f16 12) = meter_Advance.T12 := by kernel_rfl
theorem meter_Advance.bits12 : waitsOk meter_Advance.T12.2 meter_Advance.B12 = true := by kernel_rfl

set_option maxHeartbeats 4000000 in
set_option maxRecDepth 100000 in
theorem advance_main (ad : Addr) (c : Nat) (A1 : Option Addr) (c1 : Nat) (lb : List S70) (since now sfin : Int) (recs : List S98) (w : World) (hrl : recs.length ≤ 1024) (hc : 1 ≤ c) (hsn : 0 ≤ since ∧ since ≤ 1099511627776) (hnw : 0 ≤ now ∧ now ≤ 1099511627776) (hle : since ≤ now) (hq : Kd.C k38 w (some ad) 1 [Mt since]) (hr : Kd.C k70 w A1 lb.length lb) (hl : lb.length ≤ c1) (hck : tariff_Check.f 100 lb = some 0)
    (hadv : ∀ (gc gm : Nat) (rest : Array Value) (W : World), gc ≠ gm → W.heap[gc]? = some (.cells #[.slice A1 lb.length c1, .slice none 0 0] 95 (0, 0)) → W.heap[gm]? = some (.cells (mcells since rest) 38 (0, 0)) → Below w.heap.size w W → w.heap.size ≤ gc → w.heap.size ≤ gm → Calls Tryd.prog 47 #[.pointer (some ⟨gc, 0, none⟩), .pointer (some ⟨gm, 0, none⟩), .int .i64 now] W fun e w' => ∃ v1 : Value, (∃ v, e = .returned v) ∧ w'.heap[gc]? = some (.cells #[.slice A1 lb.length c1, v1] 95 (0, 0)) ∧ w'.heap[gm]? = some (.cells (mcells sfin rest) 38 (0, 0)) ∧ Kd.R k98 98 w' W.heap.size (fun _ => True) v1 recs ∧ Off2 gc gm W w') :
    Calls Tryd.prog 16 #[.slice (some ad) 1 c, .agg #[.slice A1 lb.length c1], .int .i64 now] w fun e w' => ∃ v1 v2 : Value, e = .returned (.tuple #[v1, v2, .int .i64 0]) ∧ Kd.R k38 38 w' w.heap.size (fun _ => True) v1 [Mt sfin] ∧ Kd.R k98 98 w' w.heap.size (fun _ => True) v2 recs ∧ Below w.heap.size w w' := by
  have hu95 := Tryd.underlying95
  have hu24 := Tryd.underlying24
  have hu38 := Tryd.underlying38
  have RL := Aside0.mk hrl
  have HC := Aside0.mk hc
  have SN := Aside0.mk hsn
  have NW := Aside0.mk hnw
  have LE := Aside0.mk hle
  have HQ := Aside0.mk hq
  have HR := Aside0.mk hr
  have HL := Aside0.mk hl
  have CK := Aside0.mk hck
  have HA := Aside0.mk hadv
  have HB := Aside0.mk (Below.refl w.heap.size w)
  clear hrl hc hsn hnw hle hq hr hl hck hadv
  go_enter Tryd.func16, Tryd.ntmps16
  go_wp2_with (first | ((with_reducible refine gate_dst (N := 4) rfl ?_); refine box_event ?hg (N := 4) ?hd (cs := #[.slice A1 lb.length c1]) (t := 24) ?hr ?_; (case hd => rfl); (case hg => rfl); (case hr => first | (go_simp; done) | (go_simp; rfl)); intro gt hg w1 hbox hb; have n0_ := Aside0.mk (below_step (by repeat (first | (with_reducible first | exact HB.out | apply below_alloc | apply pw_below_drewN | apply below_drew1) | exact HB.out)) hb); have BKgt := Aside0.mk hbox; have GEgt := Aside0.mk ((by rw [hg]; exact (below_size (by repeat (first | (with_reducible first | exact HB.out | apply below_alloc | apply pw_below_drewN | apply below_drew1) | exact HB.out)))) : w.heap.size ≤ gt); clear HB; have HB := n0_; clear n0_ hb hbox hg; have hczgt0 : w1.cell? ⟨gt, 0, none⟩ = some (.slice A1 lb.length c1) := (blk_cell BKgt.out 0).trans rfl; have hfzgt0 := blk_frozen BKgt.out 0) | ((with_reducible refine gate_callee (f := 45) rfl ?_); refine goesL_ (some 15) rfl rfl Tryd.func45 (by kernel_rfl) rfl #[.slice (some ad) 1 c, .agg #[.slice A1 lb.length c1], .int .i64 now, .func (.func 46) #[] #[]] rfl (by (try simp only [List.map_toArray, List.map_cons, List.map_nil]); first | done | rfl | (simp only [List.length_drop, List.length_take]; rfl)) ?_; (with_reducible refine (begin_all ad c A1 c1 lb since now _ SN.out NW.out LE.out (Kd.C_below HQ.out HB.out) (Kd.C_below HR.out HB.out) HL.out CK.out).mono ?_); rintro e w2 ⟨gc, rfl, hgc, hbk, hb⟩; refine ⟨_, rfl, ?_⟩; have m0_ := Aside0.mk (blk_below (g := gt) (o := .cells #[.slice A1 lb.length c1] 24 (0, 0)) (by (with_reducible repeat (first | refine blk_drewN ?_ _ | refine blk_drew ?_ | refine blk_alloc ?_ _)); exact BKgt.out) hb); have n0_ := Aside0.mk (below_step (by repeat (first | (with_reducible first | exact HB.out | apply below_alloc | apply pw_below_drewN | apply below_drew1 | refine below_set ?_ GEgt.out) | exact HB.out)) hb); have NEgt_gc := Aside0.mk (show gt ≠ gc from by have e1_ := blk_lt BKgt.out; have e2_ := hgc; omega); have GEgc := Aside0.mk (Nat.le_trans (below_size HB.out) hgc); have BKgc := Aside0.mk hbk; clear BKgt; have BKgt := m0_; clear m0_; clear HB; have HB := n0_; clear n0_ hb; clear hgc hbk; clear hczgt0 hfzgt0) | ((with_reducible refine gate_callee (f := 44) rfl ?_); refine goesL_ (some 22) rfl rfl Tryd.func44 (by kernel_rfl) rfl #[.slice (some ad) 1 c] rfl (by (try simp only [List.map_toArray, List.map_cons, List.map_nil]); first | done | rfl) ?_; (with_reducible refine (clone_one ad c since _ (Kd.C_below HQ.out HB.out) HC.out).mono ?_); rintro e w3 ⟨v, rfl, hv, hb⟩; obtain ⟨gm, cap, rest, ev, hgm, hbm, hc1, hc2, hsz⟩ := meter_row_open hv; subst ev; refine ⟨_, rfl, ?_⟩; have m0_ := Aside0.mk (blk_below (g := gt) (o := .cells #[.slice A1 lb.length c1] 24 (0, 0)) (by (with_reducible repeat (first | refine blk_drewN ?_ _ | refine blk_drew ?_ | refine blk_alloc ?_ _)); exact BKgt.out) hb); have m1_ := Aside0.mk (blk_below (g := gc) (o := .cells #[.slice A1 lb.length c1, .slice none 0 0] 95 (0, 0)) (by (with_reducible repeat (first | refine blk_drewN ?_ _ | refine blk_drew ?_ | refine blk_alloc ?_ _)); exact BKgc.out) hb); have n0_ := Aside0.mk (below_step HB.out hb); have BKgm := Aside0.mk hbm; have GEgm := Aside0.mk (Nat.le_trans (below_size HB.out) hgm); have NEcm := Aside0.mk (show gc ≠ gm from by have := blk_lt BKgc.out; omega); have CAP := Aside0.mk (And.intro hc1 (And.intro hc2 hsz)); clear BKgt; have BKgt := m0_; clear m0_; clear BKgc; have BKgc := m1_; clear m1_; clear HB; have HB := n0_; clear n0_ hb hv hgm hbm hc1 hc2 hsz))
  go_loopg [6, 25] 1 (fun kx s6 s25 wr => ∃ i : Nat, s6 = .slice (some ⟨gm, 0, none⟩) 1 cap ∧ s25 = .int .i64 i ∧ i ≤ 1 ∧ 1 - i ≤ kx ∧ Aside0 (i = 0 → wr = w3) ∧ Aside0 (i = 1 → ∃ v1 : Value, wr.heap[gc]? = some (.cells #[.slice A1 lb.length c1, v1] 95 (0, 0)) ∧ wr.heap[gm]? = some (.cells (mcells sfin rest) 38 (0, 0)) ∧ Kd.R k98 98 wr w.heap.size (fun _ => True) v1 recs ∧ Below w.heap.size w wr))
  case atStart => exact ⟨0, rfl, rfl, by omega, by omega, ⟨fun _ => rfl⟩, ⟨fun h => absurd h (by omega)⟩⟩
  case round =>
    obtain ⟨i, rfl, rfl, hi, hk, P0, P1⟩ := hrel
    by_cases h0 : i = 0
    · subst h0
      obtain rfl := P0.out rfl
      clear P0 P1
      go_wp2_with (first
        | (go_at_call 47; refine (HA.out gc gm rest wr NEcm.out BKgc.out BKgm.out HB.out GEgc.out GEgm.out).mono ?_; rintro e w4 ⟨v1, ⟨x_, rfl⟩, hc3, hm3, hr3, ho3⟩; obtain ⟨Ao, co, eo⟩ := Kd.R_slice hr3; subst eo; have C3 := Aside0.mk hc3; have M3 := Aside0.mk hm3; have R3 := Aside0.mk (Kd.R_lower hr3 (below_size HB.out)); have B3 := Aside0.mk (ho3.below HB.out GEgc.out GEgm.out); clear hc3 hm3 hr3 ho3)
        | (go_at_call 48; refine (full_calls gc A1 lb.length c1 _ recs.length co Ao rfl _ RL.out C3.out).mono ?_; rintro e w5 ⟨rfl, hb⟩; have C4 := Aside0.mk (blk_below C3.out hb); have M4 := Aside0.mk (blk_below M3.out hb); have R4 := Aside0.mk (Kd.R_below R3.out hb); have B4 := Aside0.mk (below_step B3.out hb); clear hb C3 M3 R3 B3))
      go_roundg 0
      case measure => omega
      case rel => exact ⟨1, rfl, by first | rfl | (simp; done), by omega, by omega, ⟨fun h => by omega⟩, ⟨fun _ => ⟨_, C4.out, M4.out, R4.out, B4.out⟩⟩⟩
    · obtain rfl : i = 1 := by omega
      obtain ⟨v1, q1, q2, q3, q4⟩ := P1.out rfl
      obtain ⟨Ao, co, eo⟩ := Kd.R_slice q3
      subst eo
      have FC := Aside0.mk q1
      have FM := Aside0.mk q2
      have FR := Aside0.mk q3
      have FB := Aside0.mk q4
      clear q1 q2 q3 q4 P0 P1
      go_wp2
      have T0 := Aside0.mk ((blk_cell FC.out 1).trans rfl : wr.cell? ⟨gc, 1, none⟩ = some (.slice Ao recs.length co))
      have BD := Aside0.mk (below_drew (Below.refl wr.heap.size wr))
      refine start_ (n := 8) (S := fun w' => w'.cell? ⟨gc, 1, none⟩ = some (.slice Ao recs.length co)) (ds := []) #[false, false, false, false, false, false, false, false] (by kernel_rfl) rfl rfl (T0.out) (fun hHeld => ?_)
      generalize wr.drew = w8 at BD hHeld ⊢
      refine with_tabW meter_Advance.tab12 meter_Advance.bits12 (fun HT_ HW_ => ?_)
      refine pure_ (i := 0) (N := some 37) (v := ?_) (a' := ?_) #[true, false, false, false, false, false, false, false] rfl rfl (any_of HT_.out (by kernel_rfl)) (fun _ _ _ h => h) (Or.inl ⟨by rfl, ?_⟩) ?_ ?_
      rotate_left
      · intro w'
        go_simp
        with_reducible rfl
      rotate_left
      · simp only [Act.put, List.setIfInBounds_toArray, List.set_cons_zero, List.set_cons_succ, i64_w, i32_w]
        rfl
      refine pure_ (i := 1) (N := some 38) (v := ?_) (a' := ?_) #[true, true, false, false, false, false, false, false] rfl rfl (any_of HT_.out (by kernel_rfl)) (fun _ _ _ h => h) (Or.inl ⟨by rfl, ?_⟩) ?_ ?_
      rotate_left
      · intro w'
        go_simp
        with_reducible rfl
      rotate_left
      · simp only [Act.put, List.setIfInBounds_toArray, List.set_cons_zero, List.set_cons_succ, i64_w, i32_w]
        rfl
      refine pure_ (i := 2) (N := some 39) (v := ?_) (a' := ?_) #[true, true, true, false, false, false, false, false] rfl rfl (any_of HT_.out (by kernel_rfl)) (fun _ _ _ h => h) (Or.inl ⟨by rfl, ?_⟩) ?_ ?_
      rotate_left
      · intro w'
        go_simp
        with_reducible rfl
      rotate_left
      · simp only [Act.put, List.setIfInBounds_toArray, List.set_cons_zero, List.set_cons_succ, i64_w, i32_w]
        rfl
      refine pure_ (i := 3) (N := some 40) (v := ?_) (a' := ?_) #[true, true, true, true, false, false, false, false] rfl rfl (any_of HT_.out (by kernel_rfl)) (fun _ _ _ h => h) (Or.inl ⟨by rfl, ?_⟩) ?_ ?_
      rotate_left
      · intro w'
        go_simp
        with_reducible rfl
      rotate_left
      · simp only [Act.put, List.setIfInBounds_toArray, List.set_cons_zero, List.set_cons_succ, i64_w, i32_w]
        rfl
      refine pure_ (i := 5) (N := some 6) (v := ?_) (a' := ?_) #[true, true, true, true, false, true, false, false] rfl rfl (any_of HT_.out (by kernel_rfl)) (fun _ _ _ h => h) (Or.inl ⟨by rfl, ?_⟩) ?_ ?_
      rotate_left
      · intro w'
        go_simp
        with_reducible rfl
      rotate_left
      · simp only [Act.put, List.setIfInBounds_toArray, List.set_cons_zero, List.set_cons_succ, i64_w, i32_w]
        rfl
      refine take_ (i := 4) (N := some 41) (v := ?_) (a' := ?_) #[true, true, true, true, true, true, false, false] rfl rfl (take_ofW HT_.out HW_.out (by kernel_rfl)) (fun _ _ _ h => h) (Or.inl ⟨by rfl, ?_⟩) hHeld ?_ ?_
      rotate_left
      · intro w' s0
        go_simp
        with_reducible rfl
      rotate_left
      · simp only [Act.put, List.setIfInBounds_toArray, List.set_cons_zero, List.set_cons_succ, i64_w, i32_w]
        rfl
      refine pure_ (i := 6) (N := some 7) (v := ?_) (a' := ?_) #[true, true, true, true, true, true, true, false] rfl rfl (any_of HT_.out (by kernel_rfl)) (fun _ _ _ h => h) (Or.inl ⟨by rfl, ?_⟩) ?_ ?_
      rotate_left
      · intro w'
        go_simp
        with_reducible rfl
      rotate_left
      · simp only [Act.put, List.setIfInBounds_toArray, List.set_cons_zero, List.set_cons_succ, i64_w, i32_w]
        rfl
      refine pure_ (i := 7) (N := some 8) (v := ?_) (a' := ?_) #[true, true, true, true, true, true, true, true] rfl rfl (any_of HT_.out (by kernel_rfl)) (fun _ _ _ h => h) (Or.inl ⟨by rfl, ?_⟩) ?_ ?_
      rotate_left
      · intro w'
        go_simp
        with_reducible rfl
      rotate_left
      · simp only [Act.put, List.setIfInBounds_toArray, List.set_cons_zero, List.set_cons_succ, i64_w, i32_w]
        rfl
      refine done_ (done_of HT_.out (by kernel_rfl)) ?_
      
      try go_wp2
      go_ret3
      exact ⟨_, _, rfl, meter_row_mk GEgm.out (blk_below FM.out BD.out) CAP.out.1 CAP.out.2.1 (by rw [← CAP.out.2.2]; simp [mcells]), Kd.R_below FR.out BD.out, below_step FB.out BD.out⟩
/-- When the (one) meter has started. -/
def sinceOf (l : List S38) : Int := (rd_T38 l 0).f4
/-- The shape at which the told functions of package meter say something. -/
def MOK (l : List S38) (lb : List S70) (now : Int) : Prop := l = [Mt (sinceOf l)] ∧ tariff_Check.f 100 lb = some 0 ∧ (lb.length ≤ 1000 ∧ 0 < lb.length) ∧ 0 ≤ sinceOf l ∧ sinceOf l ≤ now ∧ now ≤ 1099511627776
def rateOf (lb : List S70) (since : Int) : Int := ((tariff_Rate.f 100 lb since).getD (0, 0)).1
theorem rateOf_is {lb : List S70} {since rate : Int} (h : tariff_Rate.f 100 lb since = some (rate, 0)) : rateOf lb since = rate := by
  unfold rateOf
  rw [h]
  rfl
def recOf (lb : List S70) (since now : Int) : S98 := ⟨1, 1, 0, one1, since, now, rateOf lb since, wrap64 (rateOf lb since * wrap64 (now - since))⟩
/-- The one change behind a time is at another one. -/
def oneChg (lb : List S70) (since now : Int) : Prop := ¬ flatB lb ∧ (∃ rate, tariff_Rate.f 100 lb since = some (rate, 0)) ∧ tariff_Change.f 100 lb since = some (now, true, 0) ∧ ∃ nx2 ok2, tariff_Change.f 100 lb now = some (nx2, ok2, 0) ∧ (ok2 = false ∨ now < nx2)
open Classical in
noncomputable def meter_Advance.f (l : List S38) (lb : List S70) (now : Int) : Option (List S38 × List S98 × Int) :=
  if MOK l lb now then (if noChg lb (sinceOf l) now then some ([Mt (sinceOf l)], [], 0) else if oneChg lb (sinceOf l) now then some ([Mt now], [recOf lb (sinceOf l) now], 0) else none) else none
theorem meter_Advance.calls (A : Option Addr) (c : Nat) (l : List S38) (A1 : Option Addr) (c1 : Nat) (lb : List S70) (now : Int) (r1 : List S38) (r2 : List S98) (r3 : Int) (w : World) (hr : Kd.C k38 w A l.length l) (hc : l.length ≤ c) (hr1 : Kd.C k70 w A1 lb.length lb) (hc1 : lb.length ≤ c1) (h : meter_Advance.f l lb now = some (r1, r2, r3)) :
    Calls Tryd.prog 16 #[.slice A l.length c, .agg #[.slice A1 lb.length c1], .int .i64 now] w fun e w' => ∃ v1 v2 : Value, e = .returned (.tuple #[v1, v2, .int .i64 r3]) ∧ Kd.R k38 38 w' w.heap.size (fun _ => True) v1 r1 ∧ Kd.R k98 98 w' w.heap.size (fun _ => True) v2 r2 ∧ Below w.heap.size w w' := by
  unfold meter_Advance.f at h
  split at h
  case isFalse => cases h
  case isTrue hq =>
    obtain ⟨hl, hck, hlb, h0, h1, h2⟩ := hq
    generalize sinceOf l = since at h hl h0 h1
    subst hl
    obtain ⟨ad, hA, _⟩ := hr.2.2 (by simp)
    subst hA
    split at h
    case isTrue hno =>
      simp only [Option.some.injEq, Prod.mk.injEq] at h
      obtain ⟨rfl, rfl, rfl⟩ := h
      exact advance_main ad c A1 c1 lb since now since [] w (by simp) hc ⟨h0, by omega⟩ ⟨by omega, h2⟩ h1 hr hr1 hc1 hck (fun gc gm rest W hcm hbc hbm hb hgc hgm => (advance_none gc gm rest A1 c1 lb (.slice none 0 0) since now W hcm hbc hbm (Kd.C_below hr1 hb) hc1 hlb hno).mono fun e w' hx => ⟨_, hx.1, blk_below hbc hx.2, blk_below hbm hx.2, Kd.R_nil _ _ _ _ _, Off2.of_below hx.2⟩)
    case isFalse =>
      split at h
      case isFalse => cases h
      case isTrue hone =>
        obtain ⟨hnf, ⟨rate, hre⟩, hce, nx2, ok2, hce2, hok⟩ := hone
        simp only [Option.some.injEq, Prod.mk.injEq] at h
        obtain ⟨rfl, rfl, rfl⟩ := h
        unfold recOf
        rw [rateOf_is hre]
        exact advance_main ad c A1 c1 lb since now now _ w (by simp) hc ⟨h0, by omega⟩ ⟨by omega, h2⟩ h1 hr hr1 hc1 hck (fun gc gm rest W hcm hbc hbm hb hgc hgm => (advance_one rate nx2 ok2 w gc gm rest A1 c1 lb (.slice none 0 0) since now W hcm hbc hbm (Kd.C_below hr1 hb) hc1 hlb rfl hnf hce hce2 hok hre hr1 hb ⟨hgc, hgm⟩))
end Go.Proofs.YtldpacphackdjaaDoor.Print
/- That meter.Start answers the one meter, where there was none. -/
namespace Go.Proofs.YtldpacphackdjaaDoor.Print
open Go.RowKit Go.Proofs.YtldpacphackdjaaDoorW.PrintWords Go.Proofs.YtldpacphackdjaaDoorW.PrintLast Go.Proofs.YtldpacphackdjaaDoorW.PrintMore
set_option linter.unusedVariables false
set_option linter.unusedSimpArgs false
noncomputable def meter_Start.f (l : List S38) (m0 m1 m2 : Int) (m3 : ByteArray) (m4 : Int) : Option (List S38 × Int) :=
  open Classical in if l.length = 0 ∧ m0 = 1 ∧ m1 = 1 ∧ m2 = 0 ∧ m3 = one1 ∧ 0 ≤ m4 ∧ m4 ≤ 1099511627776 then some ([Mt m4], 0) else none
def meter_Start.T7 : Bool × List (List Nat × List Nat) := (true, [([], []), ([0], [0]), ([], []), ([2], [2]), ([1, 3, 1], [1, 3]), ([4, 4, 0, 1, 2, 3, 4], [4]), ([5, 0, 1, 2, 3, 4, 5], [])])
def meter_Start.B7 : List Nat := [0, 1, 0, 4, 15, 31, 63]
theorem meter_Start.tab7 : rtab .any (opsOf Tryd.f15 7) = meter_Start.T7 := by kernel_rfl
theorem meter_Start.bits7 : waitsOk meter_Start.T7.2 meter_Start.B7 = true := by kernel_rfl
set_option maxHeartbeats 4000000 in
set_option maxRecDepth 100000 in
theorem start_calls (A : Option Addr) (c : Nat) (since : Int) (w : World) (h0 : 0 ≤ since) (h1 : since ≤ 1099511627776) (hr : Kd.C k38 w A ([] : List S38).length []) :
    Calls Tryd.prog 15 #[.slice A 0 c, .agg #[.int .i64 1, .int .i64 1, .int .i64 0, .string one1, .int .i64 since]] w fun e w' => ∃ v : Value, e = .returned (.tuple #[v, .int .i64 0]) ∧ Kd.R k38 38 w' w.heap.size (fun _ => True) v [Mt since] ∧ Below w.heap.size w w' := by
  have hu38 := Tryd.underlying38
  have HR := Aside0.mk hr
  have BM := Aside0.mk (blk_new w (.cells #[.int .i64 1, .int .i64 1, .int .i64 0, .string one1, .int .i64 since] 38))
  have HB1 := Aside0.mk (below_alloc (Below.refl w.heap.size w) (.cells #[.int .i64 1, .int .i64 1, .int .i64 0, .string one1, .int .i64 since] 38))
  have H01 := Aside0.mk (And.intro h0 h1)
  clear hr h0 h1
  go_enter Tryd.func15, Tryd.ntmps15
  go_upto_region 1 with fail
  generalize w.alloc (.cells #[.int .i64 1, .int .i64 1, .int .i64 0, .string one1, .int .i64 since] 38) = w1 at BM HB1 ⊢
  go_upto_region 7 with (first
    | (go_at_call 41; (with_reducible refine (valid_nil A c _).mono ?_); rintro e w2 ⟨rfl, hb⟩; have B2 := Aside0.mk ((hb.block _ (blk_lt BM.out)).trans BM.out); have HB2 := Aside0.mk (below_step HB1.out hb); clear hb; have z0 := blk_cell B2.out 0; have z1 := blk_cell B2.out 1; have z2 := blk_cell B2.out 2; have z3 := blk_cell B2.out 3; have z4 := blk_cell B2.out 4)
    | (go_at_call 41; (with_reducible refine (valid_mtr ⟨w2.heap.size, 0, none⟩ since H01.out.1 H01.out.2 1 (w2.alloc (.cells #[.int .i64 1, .int .i64 1, .int .i64 0, .string one1, .int .i64 since] 38)) ((blk_cell (blk_new w2 _) 0).trans rfl) ((blk_cell (blk_new w2 _) 1).trans rfl) ((blk_cell (blk_new w2 _) 2).trans rfl) ((blk_cell (blk_new w2 _) 3).trans rfl) ((blk_cell (blk_new w2 _) 4).trans rfl)).mono ?_); rintro e w3 ⟨rfl, hb⟩; have B3 := Aside0.mk ((hb.block _ (blk_lt (blk_alloc B2.out _))).trans (blk_alloc B2.out (.cells #[.int .i64 1, .int .i64 1, .int .i64 0, .string one1, .int .i64 since] 38))); have HB3 := Aside0.mk (below_step (below_alloc HB2.out _) hb); clear hb)
    | (go_at_call 42; (with_reducible refine (contains_nilm A c _ _).mono ?_); rintro e w4 ⟨rfl, hb⟩; have B4 := Aside0.mk ((hb.block _ (blk_lt B3.out)).trans B3.out); have HB4 := Aside0.mk (below_step HB3.out hb); clear hb))
  have BD := Aside0.mk (below_drew (Below.refl w4.heap.size w4))
  refine start_ (n := 7) (S := fun w' => w'.cell? ⟨w.heap.size, 0, none⟩ = some (.int .i64 1) ∧ w'.cell? ⟨w.heap.size, 1, none⟩ = some (.int .i64 1) ∧ w'.cell? ⟨w.heap.size, 2, none⟩ = some (.int .i64 0) ∧ w'.cell? ⟨w.heap.size, 3, none⟩ = some (.string one1) ∧ w'.cell? ⟨w.heap.size, 4, none⟩ = some (.int .i64 since)) (ds := [4]) #[false, false, false, false, false, false, false] (by kernel_rfl) rfl rfl ⟨((blk_cell B4.out 0).trans rfl), ((blk_cell B4.out 1).trans rfl), ((blk_cell B4.out 2).trans rfl), ((blk_cell B4.out 3).trans rfl), ((blk_cell B4.out 4).trans rfl)⟩ (fun hHeld => ?_)
  generalize w4.drew = w8 at BD hHeld ⊢
  refine with_tabW meter_Start.tab7 meter_Start.bits7 (fun HT_ HW_ => ?_)
  refine pure_ (i := 0) (N := some 24) (v := ?_) (a' := ?_) #[true, false, false, false, false, false, false] rfl rfl (any_of HT_.out (by kernel_rfl)) (fun _ _ _ h => h) (Or.inl ⟨by rfl, ?_⟩) ?_ ?_
  rotate_left
  · intro w'
    go_simp
    with_reducible rfl
  rotate_left
  · simp only [Act.put, List.setIfInBounds_toArray, List.set_cons_zero, List.set_cons_succ, i64_w, i32_w]
    rfl
  refine take_ (i := 2) (N := some 26) (v := ?_) (a' := ?_) #[true, false, true, false, false, false, false] rfl rfl (take_ofW HT_.out HW_.out (by kernel_rfl)) (fun _ _ _ h => h) (Or.inl ⟨by rfl, ?_⟩) hHeld ?_ ?_
  rotate_left
  · rintro w' ⟨s0, s1, s2, s3, s4⟩
    go_simp
    with_reducible rfl
  rotate_left
  · simp only [Act.put, List.setIfInBounds_toArray, List.set_cons_zero, List.set_cons_succ, i64_w, i32_w]
    rfl
  refine join_ (σ := Value × Nat) 3 #[true, true, true, true, false, false, false] (fun s => [(25, s.1), (27, .slice (some ⟨s.2, 0, none⟩) 1 1)]) (fun s w' => (w'.cell? ⟨w.heap.size, 0, none⟩ = some (.int .i64 1) ∧ w'.cell? ⟨w.heap.size, 1, none⟩ = some (.int .i64 1) ∧ w'.cell? ⟨w.heap.size, 2, none⟩ = some (.int .i64 0) ∧ w'.cell? ⟨w.heap.size, 3, none⟩ = some (.string one1) ∧ w'.cell? ⟨w.heap.size, 4, none⟩ = some (.int .i64 since)) ∧ w'.heap[s.2]? = some (.cells #[.int .i64 1, .int .i64 1, .int .i64 0, .string one1, .int .i64 since] 38 (0, 0)) ∧ Kd.R k38 38 w' w.heap.size (fun _ => True) s.1 [] ∧ Below w.heap.size w w') ?_ ?_
  rotate_left
  · intro hCont
    refine two_ (i := 1) (j := 3) (Ni := some 25) (Nj := some 27) #[true, true, true, false, false, false, false] #[true, false, true, true, false, false, false] rfl rfl rfl rfl (two_of HT_.out (by kernel_rfl)) (by decide) (by decide) (fun K hK => ?_) (fun K hK => ?_)
    · skip
      refine goes_ Tryd.func44 (by kernel_rfl) rfl #[.slice A 0 c] (by rfl) rfl rfl (by simp only [List.map_toArray, List.map_cons, List.map_nil]; rfl) ?_
      with_reducible refine (clone_none A c _ (Kd.C_below HR.out (below_step HB4.out BD.out))).mono ?_
      rintro e w9 ⟨v9, rfl, hcl9, hb9⟩
      refine ⟨_, rfl, ?_⟩
      have HS0_ := (hb9.cell (World.block_lt_of_cell? _ _ (hHeld.1))).trans (hHeld.1)
      have HS1_ := (hb9.cell (World.block_lt_of_cell? _ _ (hHeld.2.1))).trans (hHeld.2.1)
      have HS2_ := (hb9.cell (World.block_lt_of_cell? _ _ (hHeld.2.2.1))).trans (hHeld.2.2.1)
      have HS3_ := (hb9.cell (World.block_lt_of_cell? _ _ (hHeld.2.2.2.1))).trans (hHeld.2.2.2.1)
      have HS4_ := (hb9.cell (World.block_lt_of_cell? _ _ (hHeld.2.2.2.2))).trans (hHeld.2.2.2.2)
      refine hK.out _ _ ⟨HS0_, HS1_, HS2_, HS3_, HS4_⟩ (fun hHeld => ?_)
      clear hK K
      refine norm_ (a' := ?_) ?_ ?_
      rotate_left
      · show Act.put _ (some 25) _ = _
        simp only [Act.put, List.setIfInBounds_toArray, List.set_cons_zero, List.set_cons_succ, i64_w, i32_w]
        rfl
      refine one_ (i := 3) (N := some 27) #[true, true, true, true, false, false, false] rfl rfl (one_of HT_.out (by kernel_rfl)) (by decide) (fun K hK => ?_)
      refine value_ (w1 := ?_) (v := ?_) (by rfl) rfl ?_ ?_
      rotate_left 2
      · go_simp
        constructor
        · rfl
        · rfl
      refine hK.out _ _ ⟨(World.cell?_alloc_lt _ _ _ (World.block_lt_of_cell? _ _ (hHeld.1))).trans (hHeld.1), (World.cell?_alloc_lt _ _ _ (World.block_lt_of_cell? _ _ (hHeld.2.1))).trans (hHeld.2.1), (World.cell?_alloc_lt _ _ _ (World.block_lt_of_cell? _ _ (hHeld.2.2.1))).trans (hHeld.2.2.1), (World.cell?_alloc_lt _ _ _ (World.block_lt_of_cell? _ _ (hHeld.2.2.2.1))).trans (hHeld.2.2.2.1), (World.cell?_alloc_lt _ _ _ (World.block_lt_of_cell? _ _ (hHeld.2.2.2.2))).trans (hHeld.2.2.2.2)⟩ (fun hHeld => ?_)
      clear hK K
      refine norm_ (a' := ?_) ?_ ?_
      rotate_left
      · show Act.put _ (some 27) _ = _
        simp only [Act.put, List.setIfInBounds_toArray, List.set_cons_zero, List.set_cons_succ, i64_w, i32_w]
        rfl
      exact norm_ (by simp only [putAll, Act.put, List.setIfInBounds_toArray, List.set_cons_zero, List.set_cons_succ]) (hCont (v9, w9.heap.size) _ ⟨hHeld, blk_new w9 _, Kd.R_alloc (Kd.R_lower hcl9 (below_size (below_step HB4.out BD.out))) _, below_alloc (below_step (below_step HB4.out BD.out) hb9) _⟩)
    · skip
      refine value_ (w1 := ?_) (v := ?_) (by rfl) rfl ?_ ?_
      rotate_left 2
      · go_simp
        constructor
        · rfl
        · rfl
      refine hK.out _ _ ⟨(World.cell?_alloc_lt _ _ _ (World.block_lt_of_cell? _ _ (hHeld.1))).trans (hHeld.1), (World.cell?_alloc_lt _ _ _ (World.block_lt_of_cell? _ _ (hHeld.2.1))).trans (hHeld.2.1), (World.cell?_alloc_lt _ _ _ (World.block_lt_of_cell? _ _ (hHeld.2.2.1))).trans (hHeld.2.2.1), (World.cell?_alloc_lt _ _ _ (World.block_lt_of_cell? _ _ (hHeld.2.2.2.1))).trans (hHeld.2.2.2.1), (World.cell?_alloc_lt _ _ _ (World.block_lt_of_cell? _ _ (hHeld.2.2.2.2))).trans (hHeld.2.2.2.2)⟩ (fun hHeld => ?_)
      clear hK K
      refine norm_ (a' := ?_) ?_ ?_
      rotate_left
      · show Act.put _ (some 27) _ = _
        simp only [Act.put, List.setIfInBounds_toArray, List.set_cons_zero, List.set_cons_succ, i64_w, i32_w]
        rfl
      refine one_ (i := 1) (N := some 25) #[true, true, true, true, false, false, false] rfl rfl (one_of HT_.out (by kernel_rfl)) (by decide) (fun K hK => ?_)
      refine goes_ Tryd.func44 (by kernel_rfl) rfl #[.slice A 0 c] (by rfl) rfl rfl (by simp only [List.map_toArray, List.map_cons, List.map_nil]; rfl) ?_
      with_reducible refine (clone_none A c _ (Kd.C_below HR.out (below_alloc (below_step HB4.out BD.out) _))).mono ?_
      rintro e w9 ⟨v9, rfl, hcl9, hb9⟩
      refine ⟨_, rfl, ?_⟩
      have HS0_ := (hb9.cell (World.block_lt_of_cell? _ _ (hHeld.1))).trans (hHeld.1)
      have HS1_ := (hb9.cell (World.block_lt_of_cell? _ _ (hHeld.2.1))).trans (hHeld.2.1)
      have HS2_ := (hb9.cell (World.block_lt_of_cell? _ _ (hHeld.2.2.1))).trans (hHeld.2.2.1)
      have HS3_ := (hb9.cell (World.block_lt_of_cell? _ _ (hHeld.2.2.2.1))).trans (hHeld.2.2.2.1)
      have HS4_ := (hb9.cell (World.block_lt_of_cell? _ _ (hHeld.2.2.2.2))).trans (hHeld.2.2.2.2)
      refine hK.out _ _ ⟨HS0_, HS1_, HS2_, HS3_, HS4_⟩ (fun hHeld => ?_)
      clear hK K
      refine norm_ (a' := ?_) ?_ ?_
      rotate_left
      · show Act.put _ (some 25) _ = _
        simp only [Act.put, List.setIfInBounds_toArray, List.set_cons_zero, List.set_cons_succ, i64_w, i32_w]
        rfl
      exact norm_ (by simp only [putAll, Act.put, List.setIfInBounds_toArray, List.set_cons_zero, List.set_cons_succ]) (hCont (v9, w8.heap.size) _ ⟨hHeld, (hb9.block _ (by simp)).trans (blk_new w8 _), Kd.R_lower hcl9 (below_size (below_alloc (below_step HB4.out BD.out) _)), below_step (below_alloc (below_step HB4.out BD.out) _) hb9⟩)
  rintro ⟨v5, g5⟩ w5 ⟨hHeld, hg5, hr5, hb5⟩
  have G5 := Aside0.mk hg5
  have R5 := Aside0.mk hr5
  have B5 := Aside0.mk hb5
  clear hg5 hr5 hb5
  simp only at G5 R5
  obtain ⟨Ao, co, eo⟩ := Kd.R_slice R5.out
  subst eo
  refine norm_ (a' := ?_) ?_ ?_
  rotate_left
  · simp only [putAll, Act.put, List.setIfInBounds_toArray, List.set_cons_zero, List.set_cons_succ]
    rfl
  refine last_ (i := 4) (N := some 28) #[true, true, true, true, true, false, false] rfl rfl (one_of HT_.out (by kernel_rfl)) (by decide) (fun K hK => ?_)
  refine Kd.R_append_rows_step k38 (w0 := w) w.heap.size (by rfl) (.tmp 25) (.tmp 27) 34 38 (.agg #[.int .i64 0, .int .i64 0, .int .i64 0, .string ⟨#[]⟩, .int .i64 0]) 48 (by rfl) Tryd.underlying34 info38 rfl (by decide) (by omega) (.slice Ao 0 co) [] [Mt since] (some ⟨g5, 0, none⟩) 1 1 (fun _ => True) (fun _ => False) (by rfl) (by rfl) R5.out (meter_C (rest := #[]) G5.out) (fun x cs h => by have e := k38_open h; subst e; exact k38_mkM _ _ _ x) (fun _ h => h.elim) (fun _ _ => trivial) B5.out (below_size B5.out) (by simp) ?_
  intro v1 w7 ho hb hgr hat
  have END := Aside0.mk (And.intro ho hb)
  clear ho hb hgr hat
  refine hK.out _ _ ?_
  clear hK K
  refine norm_ (a' := ?_) ?_ ?_
  rotate_left
  · show Act.put _ (some 28) _ = _
    simp only [Act.put, List.setIfInBounds_toArray, List.set_cons_zero, List.set_cons_succ, i64_w, i32_w]
    rfl
  refine pure_ (i := 5) (N := some 4) (v := ?_) (a' := ?_) #[true, true, true, true, true, true, false] rfl rfl (any_of HT_.out (by kernel_rfl)) (fun _ _ _ h => h) (Or.inl ⟨by rfl, ?_⟩) ?_ ?_
  rotate_left
  · intro w'
    go_simp
    with_reducible rfl
  rotate_left
  · simp only [Act.put, List.setIfInBounds_toArray, List.set_cons_zero, List.set_cons_succ, i64_w, i32_w]
    rfl
  refine pure_ (i := 6) (N := some 5) (v := ?_) (a' := ?_) #[true, true, true, true, true, true, true] rfl rfl (any_of HT_.out (by kernel_rfl)) (fun _ _ _ h => h) (Or.inl ⟨by rfl, ?_⟩) ?_ ?_
  rotate_left
  · intro w'
    go_simp
    with_reducible rfl
  rotate_left
  · simp only [Act.put, List.setIfInBounds_toArray, List.set_cons_zero, List.set_cons_succ, i64_w, i32_w]
    rfl
  refine done_ (done_of HT_.out (by kernel_rfl)) ?_
  
  try go_wp2
  go_ret2
  exact ⟨v1, rfl, END.out.1, END.out.2⟩
theorem meter_Start.calls (A : Option Addr) (c : Nat) (l : List S38) (m0 m1 m2 : Int) (m3 : ByteArray) (m4 : Int) (r1 : List S38) (r2 : Int) (w : World) (hr : Kd.C k38 w A l.length l) (hc : l.length ≤ c) (h : meter_Start.f l m0 m1 m2 m3 m4 = some (r1, r2)) :
    Calls Tryd.prog 15 #[.slice A l.length c, .agg #[.int .i64 m0, .int .i64 m1, .int .i64 m2, .string m3, .int .i64 m4]] w fun e w' => ∃ v : Value, e = .returned (.tuple #[v, .int .i64 r2]) ∧ Kd.R k38 38 w' w.heap.size (fun _ => True) v r1 ∧ Below w.heap.size w w' := by
  unfold meter_Start.f at h
  split at h
  case isTrue hq =>
    obtain ⟨h0, rfl, rfl, rfl, rfl, h1, h2⟩ := hq
    simp only [Option.some.injEq, Prod.mk.injEq] at h
    obtain ⟨rfl, rfl⟩ := h
    obtain rfl := List.length_eq_zero_iff.1 h0
    exact start_calls A c m4 w h1 h2 hr
  case isFalse => cases h
end Go.Proofs.YtldpacphackdjaaDoor.Print
