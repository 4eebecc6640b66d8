/- Parts of the proofs of layer 28's laws, joined in one file by a program of the session; each part begins with its own sentence. -/
import Derived.Test.YtldpacphackdjaaDoorVaSq
import Derived.Test.YtldpacphackdjaaDoorVa1
import Derived.Test.YtldpacphackdjaaDoorVaK0
import Derived.WalkSpells
import Derived.Lib.SliceRun
import Derived.Lib.OthersKept
/- That the call of function 36 (tariff_purse_short) answers what the Lean function of the same name answers, at every input at which that one answers. (Written by a program of the session, which drives the kit's printer.) -/
namespace Go.Proofs.YtldpacphackdjaaDoor.Print
open Go.RowKit Go.Proofs.YtldpacphackdjaaDoorW.PrintWords Go.Proofs.YtldpacphackdjaaDoorW.PrintLast Go.Proofs.YtldpacphackdjaaDoorW.PrintMore
attribute [local go_sem] max2_int min2_int max_two min_two max_three min_three max_four min_four   -- for this text's walks alone
set_option linter.unusedVariables false
set_option linter.unusedSimpArgs false

/-! ### tariff_purse_short: function 36 -/
def tariff_purse_short.f (l0_0 : List (S70)) (a0_1 : Int) (a0_2 : Int) (a1 : Int) : Option (Bool) := (tariff_until.f l0_0 (wrap64 ((wrap64 (a0_1 + a1)) + 1))).bind fun t499 => ((tariff_until.f l0_0 a0_1).bind fun t500 => (some (decide ((wrap64 (t499 - t500)) > a0_2))))
def tariff_purse_short.T1 : Bool × List (List Nat × List Nat) := (true, [([], []), ([0], [0]), ([], []), ([2], [2]), ([], []), ([3, 4], [3, 4]), ([5], [5]), ([1, 6], [1, 6]), ([], []), ([8], [8]), ([], []), ([10], [10]), ([9, 11, 7], [9, 11]), ([7, 12], [7, 12]), ([], []), ([14], [14]), ([13, 15], [13, 15]), ([16, 12, 0, 1, 2, 3, 4, 5, 6, 7, 8, 9, 10, 11, 12, 13, 14, 15, 16], [16])])
def tariff_purse_short.B1 : List Nat := [0, 1, 0, 4, 0, 28, 60, 127, 0, 256, 0, 1024, 4095, 8191, 0, 16384, 65535, 131071]
theorem tariff_purse_short.tab1 : rtab .any (opsOf Tryd.f36 1) = tariff_purse_short.T1 := by kernel_rfl
theorem tariff_purse_short.bits1 : waitsOk tariff_purse_short.T1.2 tariff_purse_short.B1 = true := by kernel_rfl
set_option maxHeartbeats 8000000 in
set_option maxRecDepth 100000 in
theorem tariff_purse_short.calls (A0_0 : Option Addr) (c0_0 : Nat) (l0_0 : List (S70)) (a0_1 : Int) (a0_2 : Int) (a1 : Int) (r : Bool) (w : World) (hr0_0 : Kd.C k70 w A0_0 l0_0.length l0_0) (hc0_0 : l0_0.length ≤ c0_0) (h : tariff_purse_short.f l0_0 a0_1 a0_2 a1 = some r) :
  Calls Tryd.prog 36 #[.agg #[.slice A0_0 l0_0.length c0_0, .int .i64 a0_1, .int .i64 a0_2], .int .i64 a1] w fun e w' => e = .returned (.bool r) ∧ Below w.heap.size w w' := by
 have hu74 := Tryd.underlying74
 have hu24 := Tryd.underlying24
 have HR0_0 := Aside0.mk hr0_0
 have HC0_0 := Aside0.mk hc0_0
 clear hr0_0 hc0_0
 have HB := Aside0.mk (Below.refl w.heap.size w)
 have H : ((tariff_until.f l0_0 (wrap64 ((wrap64 (a0_1 + a1)) + 1))).bind fun t499 => ((tariff_until.f l0_0 a0_1).bind fun t500 => (some (decide ((wrap64 (t499 - t500)) > a0_2))))) = some r := h
 clear h
 replace H := Option.bind_eq_some_iff.mp H
 obtain ⟨t499, A30, H⟩ := H
 replace H : ((tariff_until.f l0_0 a0_1).bind fun t500 => (some (decide ((wrap64 (t499 - t500)) > a0_2)))) = some r := H
 have A3 := Aside0.mk A30
 clear A30
 replace H := Option.bind_eq_some_iff.mp H
 obtain ⟨t500, A40, H⟩ := H
 replace H : (some (decide ((wrap64 (t499 - t500)) > a0_2))) = some r := H
 have A4 := Aside0.mk A40
 clear A40
 obtain rfl := Option.some.inj H
 go_enter Tryd.func36, Tryd.ntmps36
 try go_wp2_with (first | ((with_reducible refine gate_dst (N := 2) rfl ?_); refine box_event ?hg (N := 2) ?hd (cs := #[.slice A0_0 l0_0.length c0_0, .int .i64 a0_1, .int .i64 a0_2]) (t := 74) ?hr ?_; (case hd => rfl); (case hg => rfl); (case hr => first | (go_simp; done) | (go_simp; rfl)); intro gb498 hg w5 hbox hb; have n0_ := ls0 HB hb; have n1_ := Aside0.mk (hbox); have n2_ := Aside0.mk ((by rw [hg]; exact (below_size (lb0 HB)) : w.heap.size ≤ gb498)); have n3_ := Aside0.mk ((by rw [hg]; exact (below_size (lb0 HB)) : w.heap.size ≤ gb498)); clear HB; have HB := n0_; have BK498 := n1_; have GW498 := n2_; have GE498 := n3_; clear n0_ n1_ n2_ n3_; clear hb hbox hg))
 have n0_ := Aside0.mk (blk_drew BK498.out)
 have n1_ := Aside0.mk (below_drew1 HB.out)
 clear BK498
 clear HB
 have BK498 := n0_
 have HB := n1_
 clear n0_ n1_
 refine start_ (n := 18) (S := fun w' => w'.cell? ⟨gb498, 0, none⟩ = some (.slice A0_0 l0_0.length c0_0) ∧ w'.cell? ⟨gb498, 1, none⟩ = some (.int .i64 a0_1) ∧ w'.cell? ⟨gb498, 2, none⟩ = some (.int .i64 a0_2)) (ds := []) #[false, false, false, false, false, false, false, false, false, false, false, false, false, false, false, false, false, false] (by kernel_rfl) rfl rfl ⟨(blk_cell BK498.out 0).trans rfl, (blk_cell BK498.out 1).trans rfl, (blk_cell BK498.out 2).trans rfl⟩ (fun hHeld => ?_); refine with_tabW tariff_purse_short.tab1 tariff_purse_short.bits1 (fun HT_ HW_ => ?_)
 generalize w5.drew = w6 at BK498 HB hHeld ⊢
 refine p_ 0 5 HT_ ?_
 refine p_ 2 7 HT_ ?_
 refine p_ 4 9 HT_ ?_
 refine p_ 8 13 HT_ ?_
 refine p_ 10 15 HT_ ?_
 refine p_ 14 19 HT_ ?_
 refine t_ 1 6 HT_ HW_ rfl rfl hHeld (by rintro w' ⟨s0, s1, s2⟩; go_simp; with_reducible rfl) ?_
 refine t_ 3 8 HT_ HW_ rfl rfl hHeld (by rintro w' ⟨s0, s1, s2⟩; go_simp; with_reducible rfl) ?_
 refine p_ 5 10 HT_ ?_
 refine p_ 6 11 HT_ ?_
 refine t_ 9 14 HT_ HW_ rfl rfl hHeld (by rintro w' ⟨s0, s1, s2⟩; go_simp; with_reducible rfl) ?_
 refine t_ 11 16 HT_ HW_ rfl rfl hHeld (by rintro w' ⟨s0, s1, s2⟩; go_simp; with_reducible rfl) ?_
 refine t_ 15 20 HT_ HW_ rfl rfl hHeld (by rintro w' ⟨s0, s1, s2⟩; go_simp; with_reducible rfl) ?_
 refine o_ 7 12 HT_ (fun K hK => ?_)
 refine goes_ Tryd.func52 (by kernel_rfl) rfl #[.agg #[.slice A0_0 l0_0.length c0_0], .int .i64 (wrap64 ((wrap64 (a0_1 + a1)) + 1))] (by rfl) rfl rfl (by (try simp only [List.map_toArray, List.map_cons, List.map_nil]); first | done | rfl | (simp only [List.length_drop, List.length_take]; rfl)) ?_
 with_reducible refine (tariff_until.calls _ _ l0_0 (wrap64 ((wrap64 (a0_1 + a1)) + 1)) t499 _ ?side1 ?side2 A3.out).mono ?_
 (case side1 => repeat (first | exact (Kd.C_below HR0_0.out HB.out) | (with_reducible refine Kd.C_alloc ?_ _) | (with_reducible refine Kd.C_drewN ?_ _) | (with_reducible refine Kd.C_drew ?_)))
 (case side2 => exact HC0_0.out)
 rintro e w7 ⟨rfl, hb⟩
 refine ⟨_, rfl, ?_⟩
 have n0_ := kl BK498 hb
 have n1_ := ls1 HB GE498 hb
 clear BK498
 clear HB
 have BK498 := n0_
 have HB := n1_
 clear n0_ n1_
 (try clear hb)
 (try clear hb2)
 (try clear hk)
 (try clear hi)
 refine hK.out _ _ ⟨(blk_cell BK498.out 0).trans rfl, (blk_cell BK498.out 1).trans rfl, (blk_cell BK498.out 2).trans rfl⟩ (fun hHeld => ?_)
 clear hK K
 refine n_ 12 ?_
 refine o_ 12 17 HT_ (fun K hK => ?_)
 refine goes_ Tryd.func52 (by kernel_rfl) rfl #[.agg #[.slice A0_0 l0_0.length c0_0], .int .i64 a0_1] (by rfl) rfl rfl (by (try simp only [List.map_toArray, List.map_cons, List.map_nil]); first | done | rfl | (simp only [List.length_drop, List.length_take]; rfl)) ?_
 with_reducible refine (tariff_until.calls _ _ l0_0 a0_1 t500 _ ?side1 ?side2 A4.out).mono ?_
 (case side1 => repeat (first | exact (Kd.C_below HR0_0.out HB.out) | (with_reducible refine Kd.C_alloc ?_ _) | (with_reducible refine Kd.C_drewN ?_ _) | (with_reducible refine Kd.C_drew ?_)))
 (case side2 => exact HC0_0.out)
 rintro e w8 ⟨rfl, hb⟩
 refine ⟨_, rfl, ?_⟩
 have n0_ := kl BK498 hb
 have n1_ := ls1 HB GE498 hb
 clear BK498
 clear HB
 have BK498 := n0_
 have HB := n1_
 clear n0_ n1_
 (try clear hb)
 (try clear hb2)
 (try clear hk)
 (try clear hi)
 refine hK.out _ _ ⟨(blk_cell BK498.out 0).trans rfl, (blk_cell BK498.out 1).trans rfl, (blk_cell BK498.out 2).trans rfl⟩ (fun hHeld => ?_)
 clear hK K
 refine n_ 17 ?_
 refine p_ 13 18 HT_ ?_
 refine p_ 16 21 HT_ ?_
 refine p_ 17 4 HT_ ?_
 refine done_ (done_of HT_.out (by kernel_rfl)) ?_
 try go_wp2
 go_ret
 exact ⟨by first | rfl | (simp [errW_none, errW_some] <;> rfl) | (simp [*, errW_none, errW_some] <;> rfl), lb1 HB GE498⟩

end Go.Proofs.YtldpacphackdjaaDoor.Print
/- That tariff.Afford answers the number of affordable seconds, or the error that comes first, for every tariff and all numbers. -/
namespace Go.Proofs.YtldpacphackdjaaDoor.Print
open Go.RowKit Go.Proofs.YtldpacphackdjaaDoorW.PrintWords Go.Proofs.YtldpacphackdjaaDoorW.PrintLast Go.Proofs.YtldpacphackdjaaDoorW.PrintMore
set_option linter.unusedVariables false
set_option linter.unusedSimpArgs false

/-- sort.Search over a method value of a purse: the first place at which the purse is short. -/
theorem short_at {l : List S70} (hg : good l = true) (a u : Int) (ha : 0 ≤ a) (hu : 0 ≤ u) (m : Nat) (hm : a + m ≤ 1099511627776) (j : Nat) (hj : j < m) : tariff_purse_short.f l a u (j : Int) = some (decide (affN l a u m ≤ j)) := by
  unfold tariff_purse_short.f tariff_until.f
  have e1 : wrap64 (a + (j : Int)) = a + j := by unfold wrap64; omega
  have e2 : wrap64 (a + (j : Int) + 1) = a + j + 1 := by unfold wrap64; omega
  rw [e1, e2, if_pos ⟨hg, by omega, by omega⟩, Option.bind_some, if_pos ⟨hg, by omega, by omega⟩, Option.bind_some]
  have b1 := totalP_bd hg (a + j + 1) (by omega)
  have b2 := totalP_bd hg a (by omega)
  have e3 : wrap64 (totalP l (a + j + 1) - totalP l a) = totalP l (a + j + 1) - totalP l a := by unfold wrap64; omega
  rw [e3]
  exact congrArg some (decide_eq_decide.2 (by rw [gt_iff_lt]; exact affN_iff hg a u ha hu m j hj))

set_option maxHeartbeats 4000000 in
set_option maxRecDepth 100000 in
theorem search_calls (A0 : Option Addr) (c0 : Nat) (l : List S70) (a u : Int) (m : Nat) (w : World) (hr : Kd.C k70 w A0 l.length l) (hc : l.length ≤ c0) (hg : good l = true) (ha : 0 ≤ a) (hu : 0 ≤ u) (hm : a + m ≤ 1099511627776) :
    Calls Tryd.prog 35 #[.int .i64 (m : Int), .func (.func 36) #[.agg #[.slice A0 l.length c0, .int .i64 a, .int .i64 u]] #[]] w fun e w' => e = .returned (.int .i64 (affN l a u m : Int)) ∧ Below w.heap.size w w' := by
  have HC := Aside0.mk (fun (j : Nat) (hj : j < m) (W : World) (hW : Below w.heap.size w W) => tariff_purse_short.calls A0 c0 l a u (j : Int) _ W (Kd.C_below hr hW) hc (short_at hg a u ha hu m hm j hj))
  have B0 := Aside0.mk (Below.refl w.heap.size w)
  have hN := affN_le l a u m
  have hm2 : m ≤ 1099511627776 := by omega
  generalize affN l a u m = i at HC hN ⊢
  clear hr hc hg hm
  go_enter Tryd.func35, Tryd.ntmps35
  go_wp2
  go_loopg [5, 6] m (fun kx s5 s6 wr => ∃ lo hi : Nat, s5 = .int .i64 lo ∧ s6 = .int .i64 hi ∧ lo ≤ hi ∧ hi ≤ m ∧ hi - lo ≤ kx ∧ lo ≤ i ∧ i ≤ hi ∧ Aside0 (Below w.heap.size w wr))
  case atStart => exact ⟨0, m, rfl, rfl, Nat.zero_le _, Nat.le_refl _, by omega, Nat.zero_le _, hN, B0⟩
  case round =>
    clear B0
    obtain ⟨lo, hi, rfl, rfl, hlh, hin, hk, h4, h5, B1⟩ := hrel
    by_cases hlt : lo < hi
    · have hj : (lo + hi) / 2 < m := by omega
      have hq := HC.out ((lo + hi) / 2) hj wr B1.out
      rw [show (((lo + hi) / 2 : Nat) : Int) = ((lo : Int) + (hi : Int)) / 2 by omega] at hq
      by_cases hx : i ≤ (lo + hi) / 2
      · rw [decide_eq_true hx] at hq
        have HQ := Aside0.mk hq
        clear hq
        go_wp2_with (go_at_call 36; (with_reducible refine HQ.out.mono ?_); rintro e w' ⟨rfl, hb⟩)
        have B2 := Aside0.mk (below_step B1.out hb)
        go_roundg ((lo + hi) / 2 - lo)
        case measure => omega
        case rel => exact ⟨lo, (lo + hi) / 2, rfl, by rw [show ((lo : Int) + (hi : Int)) / 2 = (((lo + hi) / 2 : Nat) : Int) by omega], by omega, by omega, Nat.le_refl _, h4, hx, B2⟩
      · rw [decide_eq_false hx] at hq
        have HQ := Aside0.mk hq
        clear hq
        go_wp2_with (go_at_call 36; (with_reducible refine HQ.out.mono ?_); rintro e w' ⟨rfl, hb⟩)
        have B2 := Aside0.mk (below_step B1.out hb)
        go_roundg (hi - ((lo + hi) / 2 + 1))
        case measure => omega
        case rel => exact ⟨(lo + hi) / 2 + 1, hi, by rw [show ((lo : Int) + (hi : Int)) / 2 + 1 = (((lo + hi) / 2 + 1 : Nat) : Int) by omega], rfl, by omega, hin, Nat.le_refl _, by omega, h5, B2⟩
    · obtain rfl : hi = lo := by omega
      obtain rfl : hi = i := by omega
      go_wp2
      go_ret
      exact ⟨rfl, B1.out⟩

/-- What tariff.Check answers. -/
theorem check_l0 : ∀ (d : Nat) (l : List S70) (k j : Nat) (least : Int), l.length - j = d → d < k → l.length ≤ 24 → 0 ≤ least → least ≤ 86400 →
    tariff_Check.l0 k least l (l.length : Int) (j : Int) = some (if (j = 0 → l = [] ∨ (rd_T70 l 0).f0 = 0) ∧ goodFrom least (l.drop j) = true then 0 else 260) := by
  intro d
  induction d with
  | zero =>
    intro l k j least hd hk hl h0 h1
    obtain ⟨k, rfl⟩ : ∃ m, k = m + 1 := ⟨k - 1, by omega⟩
    simp only [tariff_Check.l0]
    rw [if_neg (by omega), List.drop_eq_nil_of_le (by omega)]
    rw [if_pos ⟨fun hj => .inl (by subst hj; exact List.eq_nil_of_length_eq_zero (by omega)), rfl⟩]
  | succ d ih =>
    intro l k j least hd hk hl h0 h1
    obtain ⟨k, rfl⟩ : ∃ m, k = m + 1 := ⟨k - 1, by omega⟩
    have hj : j < l.length := by omega
    have er : rd_T70 l (j : Int) = l[j] := by simp [rd_T70, List.getD_eq_getElem?_getD, List.getElem?_eq_getElem hj]
    simp only [tariff_Check.l0]
    rw [if_pos (by omega), if_pos (by omega), if_pos (by omega), List.drop_eq_getElem_cons hj, er]
    have hw : ∀ a b c : Int, tariff_within.f a b c = some (decide (b ≤ a ∧ a ≤ c)) := fun a b c => by
      unfold tariff_within.f
      by_cases h : b ≤ a
      · rw [if_pos h]; simp [h]
      · rw [if_neg h]; simp [h]
    have er0 : j = 0 → rd_T70 l 0 = l[j] := fun h => by subst h; exact er
    have hne : l ≠ [] := by intro h; subst h; simp at hj
    have hrest : ((tariff_within.f l[j].f0 least 86399).bind fun t => if t = true then ((tariff_within.f l[j].f1 0 1000000).bind fun t2 => if t2 = true then tariff_Check.l0 k (wrap64 (l[j].f0 + 1)) l (l.length : Int) (wrap64 ((j : Int) + 1)) else some 260) else some 260) = some (if goodFrom least (l[j] :: l.drop (j + 1)) = true then 0 else 260) := by
      rw [hw, Option.bind_some]
      by_cases c1 : least ≤ l[j].f0 ∧ l[j].f0 ≤ 86399
      · rw [decide_eq_true c1, if_pos rfl, hw, Option.bind_some]
        by_cases c2 : 0 ≤ l[j].f1 ∧ l[j].f1 ≤ 1000000
        · rw [decide_eq_true c2, if_pos rfl]
          have e1 : wrap64 (l[j].f0 + 1) = l[j].f0 + 1 := by unfold wrap64; omega
          have e2 : wrap64 ((j : Int) + 1) = ((j + 1 : Nat) : Int) := by unfold wrap64; omega
          rw [e1, e2, ih l k (j + 1) (l[j].f0 + 1) (by omega) (by omega) hl (by omega) (by omega)]
          simp [goodFrom, c1, c2]
        · rw [decide_eq_false c2, if_neg (by simp), if_neg]
          simp only [goodFrom, Bool.and_eq_true, decide_eq_true_eq]
          rintro ⟨⟨_, _, a, b⟩, _⟩
          exact c2 ⟨a, b⟩
      · rw [decide_eq_false c1, if_neg (by simp), if_neg]
        simp only [goodFrom, Bool.and_eq_true, decide_eq_true_eq]
        rintro ⟨⟨a, b, _⟩, _⟩
        exact c1 ⟨a, b⟩
    by_cases hz : (j : Int) = 0
    · rw [if_pos hz]
      have hz' : j = 0 := by omega
      by_cases hs : l[j].f0 = 0
      · rw [if_pos hs, hrest]
        congr 1
        by_cases hgf : goodFrom least (l[j] :: l.drop (j + 1)) = true
        · rw [if_pos hgf, if_pos ⟨fun _ => .inr (by rw [er0 hz']; exact hs), hgf⟩]
        · rw [if_neg hgf, if_neg (fun h => hgf h.2)]
      · rw [if_neg hs, if_neg]
        rintro ⟨h, _⟩
        rcases h hz' with h | h
        · exact hne h
        · rw [er0 hz'] at h; exact hs h
    · rw [if_neg hz, hrest]
      congr 1
      by_cases hgf : goodFrom least (l[j] :: l.drop (j + 1)) = true
      · rw [if_pos hgf, if_pos ⟨fun h => absurd h (by omega), hgf⟩]
      · rw [if_neg hgf, if_neg (fun h => hgf h.2)]
theorem check_is (l : List S70) (k : Nat) (hk : 25 ≤ k) : tariff_Check.f k l = some (if good l = true then 0 else 260) := by
  unfold tariff_Check.f tariff_within.f
  by_cases h1 : (1 : Int) ≤ (l.length : Int)
  · rw [if_pos h1, Option.bind_some]
    by_cases h2 : (l.length : Int) ≤ 24
    · rw [decide_eq_true h2, if_pos rfl]
      have := check_l0 l.length l k 0 0 (by omega) (by omega) (by omega) (by omega) (by omega)
      rw [show ((0 : Nat) : Int) = 0 from rfl] at this
      rw [this]
      congr 1
      cases l with
      | nil => simp at h1
      | cons b t =>
        by_cases hg : good (b :: t) = true
        · rw [if_pos hg]
          simp only [good, Bool.and_eq_true, decide_eq_true_eq] at hg
          rw [if_pos ⟨fun _ => .inr (by simpa [rd_T70] using hg.1), by simpa using hg.2.1⟩]
        · rw [if_neg hg, if_neg]
          rintro ⟨h3, h4⟩
          refine hg ?_
          simp only [good, Bool.and_eq_true, decide_eq_true_eq]
          rcases h3 rfl with h3 | h3
          · simp at h3
          · exact ⟨by simpa [rd_T70] using h3, by simpa using h4, by omega⟩
    · rw [decide_eq_false h2, if_neg (by simp), if_neg]
      intro hg
      have := good_len hg
      omega
  · rw [if_neg h1, Option.bind_some, if_neg (by simp), if_neg]
    intro hg
    have := good_len hg
    omega

theorem within_is (a b c : Int) : tariff_within.f a b c = some (decide (b ≤ a ∧ a ≤ c)) := by
  unfold tariff_within.f
  by_cases h : b ≤ a
  · rw [if_pos h]; simp [h]
  · rw [if_neg h]; simp [h]
theorem within_yes (a b c : Int) (h : b ≤ a ∧ a ≤ c) (w : World) : Calls Tryd.prog 34 #[.int .i64 a, .int .i64 b, .int .i64 c] w fun e w' => e = .returned (.bool true) ∧ Drawn0 w w' :=
  tariff_within.calls a b c true w (by rw [within_is, decide_eq_true h])
theorem within_no (a b c : Int) (h : ¬ (b ≤ a ∧ a ≤ c)) (w : World) : Calls Tryd.prog 34 #[.int .i64 a, .int .i64 b, .int .i64 c] w fun e w' => e = .returned (.bool false) ∧ Drawn0 w w' :=
  tariff_within.calls a b c false w (by rw [within_is, decide_eq_false h])

set_option maxHeartbeats 4000000 in
set_option maxRecDepth 100000 in
theorem tariff_Afford.calls (A0_0 : Option Addr) (c0_0 : Nat) (l0_0 : List S70) (a1 : Int) (a2 : Int) (a3 : Int) (r1 : Int) (r2 : Int) (w : World) (hr0_0 : Kd.C k70 w A0_0 l0_0.length l0_0) (hc0_0 : l0_0.length ≤ c0_0) (h : tariff_Afford.f l0_0 a1 a2 a3 = some (r1, r2)) :
    Calls Tryd.prog 13 #[.agg #[.slice A0_0 l0_0.length c0_0], .int .i64 a1, .int .i64 a2, .int .i64 a3] w fun e w' => e = .returned (.tuple #[.int .i64 r1, .int .i64 r2]) ∧ Below w.heap.size w w' := by
  have hu := Tryd.underlying24
  unfold tariff_Afford.f at h
  have HR := Aside0.mk hr0_0
  have HC := Aside0.mk (fun W (hW : Below w.heap.size w W) => tariff_Check.calls 25 A0_0 c0_0 l0_0 _ W (Kd.C_below hr0_0 hW) hc0_0 (check_is l0_0 25 (by omega)))
  have B0 := Aside0.mk (below_alloc (Below.refl w.heap.size w) (.cells #[.slice A0_0 l0_0.length c0_0] 24))
  have hn0 : (w.alloc (.cells #[.slice A0_0 l0_0.length c0_0] 24)).cell? ⟨w.heap.size, 0, none⟩ = some (.slice A0_0 l0_0.length c0_0) := by
    rw [World.cell?_alloc_at _ _ _ _ (by simp)]; rfl
  have N0 := Aside0.mk hn0
  clear hn0
  by_cases hg : good l0_0 = true
  · rw [if_pos hg] at h HC
    have HG := Aside0.mk hg
    clear hg
    by_cases hf : 0 ≤ a1 ∧ a1 ≤ 1099511627776 ∧ 0 ≤ a2 ∧ 0 ≤ a3 ∧ a3 ≤ 1099511627776 - a1
    · rw [if_pos hf] at h
      simp only [Option.some.injEq, Prod.mk.injEq] at h
      obtain ⟨rfl, rfl⟩ := h
      obtain ⟨f1, f2, f3, f4, f5⟩ := hf
      obtain ⟨m, rfl⟩ := Int.eq_ofNat_of_zero_le f4
      have HS := Aside0.mk (fun W (hW : Below w.heap.size w W) => search_calls A0_0 c0_0 l0_0 a1 a2 m W (Kd.C_below hr0_0 hW) hc0_0 HG.out f1 f3 (by omega))
      rw [Int.toNat_natCast]
      generalize affN l0_0 a1 a2 m = i at HS ⊢
      clear hr0_0 hc0_0
      have f6 : (m : Int) ≤ 1099511627776 - a1 := f5
      go_enter Tryd.func13, Tryd.ntmps13
      go_wp2_with fail
      refine (HC.out _ B0.out).mono ?_
      rintro e w1 ⟨rfl, hb1⟩
      have B1 := Aside0.mk (below_step B0.out hb1)
      have hx1 := (hb1.cell (by simp)).trans N0.out
      clear hb1
      go_wp2_with fail
      refine (within_yes a1 0 1099511627776 ⟨f1, f2⟩ _).mono ?_
      rintro e w2 ⟨rfl, ⟨nd, rfl⟩⟩
      go_wp2_with fail
      refine (within_yes (m : Int) 0 (1099511627776 - a1) ⟨f4, f5⟩ _).mono ?_
      rintro e w3 ⟨rfl, ⟨nd3, rfl⟩⟩
      go_wp2_with fail
      refine (HS.out _ (pw_below_drewN B1.out _)).mono ?_
      rintro e w4 ⟨rfl, hb4⟩
      have B4 := Aside0.mk (below_step (pw_below_drewN B1.out _) hb4)
      clear hb4
      go_wp2
      go_ret2
      exact ⟨rfl, B4.out⟩
    · rw [if_neg hf] at h
      simp only [Option.some.injEq, Prod.mk.injEq] at h
      obtain ⟨rfl, rfl⟩ := h
      clear hr0_0 hc0_0
      by_cases f1 : 0 ≤ a1 ∧ a1 ≤ 1099511627776
      · obtain ⟨f1, f2⟩ := f1
        by_cases f3 : 0 ≤ a2
        · have f4 : ¬ (0 ≤ a3 ∧ a3 ≤ 1099511627776 - a1) := fun h => hf ⟨f1, f2, f3, h⟩
          clear hf
          have F4 := Aside0.mk f4
          clear f4
          go_enter Tryd.func13, Tryd.ntmps13
          go_wp2_with fail
          refine (HC.out _ B0.out).mono ?_
          rintro e w1 ⟨rfl, hb1⟩
          have B1 := Aside0.mk (below_step B0.out hb1)
          clear hb1
          go_wp2_with fail
          refine (within_yes a1 0 1099511627776 ⟨f1, f2⟩ _).mono ?_
          rintro e w2 ⟨rfl, ⟨nd, rfl⟩⟩
          go_wp2_with fail
          refine (within_no a3 0 (1099511627776 - a1) F4.out _).mono ?_
          rintro e w3 ⟨rfl, ⟨nd3, rfl⟩⟩
          go_wp2
          go_ret2
          exact ⟨rfl, pw_below_drewN B1.out _⟩
        · clear hf
          go_enter Tryd.func13, Tryd.ntmps13
          go_wp2_with fail
          refine (HC.out _ B0.out).mono ?_
          rintro e w1 ⟨rfl, hb1⟩
          have B1 := Aside0.mk (below_step B0.out hb1)
          clear hb1
          go_wp2_with fail
          refine (within_yes a1 0 1099511627776 ⟨f1, f2⟩ _).mono ?_
          rintro e w2 ⟨rfl, ⟨nd, rfl⟩⟩
          go_wp2
          go_ret2
          exact ⟨rfl, pw_below_drewN B1.out _⟩
      · clear hf
        have F1 := Aside0.mk f1
        clear f1
        go_enter Tryd.func13, Tryd.ntmps13
        go_wp2_with fail
        refine (HC.out _ B0.out).mono ?_
        rintro e w1 ⟨rfl, hb1⟩
        have B1 := Aside0.mk (below_step B0.out hb1)
        clear hb1
        go_wp2_with fail
        refine (within_no a1 0 1099511627776 F1.out _).mono ?_
        rintro e w2 ⟨rfl, ⟨nd, rfl⟩⟩
        go_wp2
        go_ret2
        exact ⟨rfl, pw_below_drewN B1.out _⟩
  · rw [if_neg hg] at h HC
    clear hg
    simp only [Option.some.injEq, Prod.mk.injEq] at h
    obtain ⟨rfl, rfl⟩ := h
    clear hr0_0 hc0_0
    go_enter Tryd.func13, Tryd.ntmps13
    go_wp2_with fail
    refine (HC.out _ B0.out).mono ?_
    rintro e w1 ⟨rfl, hb1⟩
    have B1 := Aside0.mk (below_step B0.out hb1)
    clear hb1
    go_wp2
    go_ret2
    exact ⟨rfl, B1.out⟩
end Go.Proofs.YtldpacphackdjaaDoor.Print
/- That the search of prepaid.hold finds the place of a call's hold, in every list of holds whose calls' numbers rise; and that slices.Clone makes a row of the call's own with the same holds. -/
namespace Go.Proofs.YtldpacphackdjaaDoor.Print
open Go.RowKit Go.Proofs.YtldpacphackdjaaDoorW.PrintWords Go.Proofs.YtldpacphackdjaaDoorW.PrintLast Go.Proofs.YtldpacphackdjaaDoorW.PrintMore
set_option linter.unusedVariables false
set_option linter.unusedSimpArgs false

/-- What cmp.Compare answers. -/
def cmpI (a b : Int) : Int := if a < b then -1 else if a > b then 1 else 0
theorem cmpI_neg (a b : Int) : cmpI a b < 0 ↔ a < b := by
  unfold cmpI
  split
  · simp [*]
  · split <;> simp [*]
theorem cmpI_zero (a b : Int) : cmpI a b = 0 ↔ a = b := by
  unfold cmpI
  split
  · constructor
    · intro h; omega
    · intro h; omega
  · split
    · constructor
      · intro h; omega
      · intro h; omega
    · constructor
      · intro h; omega
      · intro h; rfl
set_option maxHeartbeats 1000000 in
set_option maxRecDepth 100000 in
theorem hold1_calls (a b c s : Int) {q : Int} (h : cmpI a s = q) (w : World) :
    Calls Tryd.prog 66 #[.agg #[.int .i64 a, .int .i64 b, .int .i64 c], .int .i64 s] w fun e w' => e = .returned (.int .i64 q) ∧ Below w.heap.size w w' := by
  have hu := Tryd.underlying54
  subst h
  by_cases h1 : a < s
  · have e : cmpI a s = -1 := by unfold cmpI; rw [if_pos h1]
    rw [e]
    clear e
    go_enter Tryd.func66, Tryd.ntmps66
    go_wp2
    go_ret
    exact ⟨rfl, by repeat (first | exact Below.refl _ _ | apply below_alloc | apply below_drew | apply pw_below_drewN)⟩
  · by_cases h2 : a > s
    · have e : cmpI a s = 1 := by unfold cmpI; rw [if_neg h1, if_pos h2]
      rw [e]
      clear e
      have h2' : s < a := h2
      have h1' : s ≤ a := by omega
      clear h1 h2
      go_enter Tryd.func66, Tryd.ntmps66
      go_wp2
      go_ret
      exact ⟨rfl, by repeat (first | exact Below.refl _ _ | apply below_alloc | apply below_drew | apply pw_below_drewN)⟩
    · have e : cmpI a s = 0 := by unfold cmpI; rw [if_neg h1, if_neg h2]
      rw [e]
      clear e
      obtain rfl : a = s := by omega
      clear h1 h2
      go_enter Tryd.func66, Tryd.ntmps66
      go_wp2
      go_ret
      exact ⟨rfl, by repeat (first | exact Below.refl _ _ | apply below_alloc | apply below_drew | apply pw_below_drewN)⟩

set_option maxHeartbeats 4000000 in
set_option maxRecDepth 100000 in
theorem bsearch_hold (A0 : Option Addr) (c0 : Nat) (l : List S54) (s : Int) (i : Nat) (w : World) (hr : Kd.C k54 w A0 l.length l) (hi : i ≤ l.length) (hlen : l.length ≤ 1024)
    (hb : ∀ j : Nat, j < l.length → ((rd_T54 l j).f0 < s ↔ j < i)) :
    Calls Tryd.prog 65 #[.slice A0 l.length c0, .int .i64 s, .func (.func 66) #[] #[]] w fun e w' => e = .returned (.tuple #[.int .i64 (i : Int), .bool (decide (i < l.length) && decide ((rd_T54 l i).f0 = s))]) ∧ Below w.heap.size w w' := by
  have hu := Tryd.underlying54
  have HR := Aside0.mk hr
  have HB := Aside0.mk hb
  have B0 := Aside0.mk (Below.refl w.heap.size w)
  clear hr hb
  go_enter Tryd.func65, Tryd.ntmps65
  go_wp2
  go_loopg [9, 10] l.length (fun kx s9 s10 wr => ∃ lo hi : Nat, s9 = .int .i64 lo ∧ s10 = .int .i64 hi ∧ lo ≤ hi ∧ hi ≤ l.length ∧ hi - lo ≤ kx ∧ lo ≤ i ∧ i ≤ hi ∧ Aside0 (Below w.heap.size w wr))
  case atStart => exact ⟨0, l.length, rfl, rfl, Nat.zero_le _, Nat.le_refl _, by omega, Nat.zero_le _, hi, B0⟩
  case round =>
    clear B0
    obtain ⟨lo, hi', rfl, rfl, hlh, hin, hg, h4, h5, B1⟩ := hrel
    by_cases hlt : lo < hi'
    · have hql : (lo + hi') / 2 < l.length := by omega
      have g3 := HB.out ((lo + hi') / 2) hql
      obtain ⟨ad, e1, c1, c2, c3⟩ := at_T54 HR.out (((lo + hi') / 2 : Nat) : Int) (by omega) (by omega)
      cases e1
      replace c1 := (B1.out.cell (World.block_lt_of_cell? w _ c1)).trans c1
      replace c2 := (B1.out.cell (World.block_lt_of_cell? w _ c2)).trans c2
      replace c3 := (B1.out.cell (World.block_lt_of_cell? w _ c3)).trans c3
      rw [Int.toNat_natCast] at c1 c2 c3
      generalize rd_T54 l (((lo + hi') / 2 : Nat) : Int) = x at c1 c2 c3 g3
      obtain ⟨x0, x1, x2⟩ := x
      simp only at c1 c2 c3 g3
      have G3 := Aside0.mk g3
      clear g3
      obtain ⟨q, hq⟩ : ∃ q, cmpI x0 s = q := ⟨_, rfl⟩
      have HC := Aside0.mk (fun W => hold1_calls x0 x1 x2 s hq W)
      have hq0 := cmpI_neg x0 s
      rw [hq] at hq0
      have HQ := Aside0.mk hq0
      clear hq hq0
      by_cases hx : q < 0
      · go_wp2_with (go_at_call 66; refine (HC.out _).mono ?_; rintro e w' ⟨rfl, hb⟩)
        have B2 := Aside0.mk (below_step B1.out hb)
        clear hb
        go_roundg (hi' - ((lo + hi') / 2 + 1))
        case measure => omega
        case rel => exact ⟨(lo + hi') / 2 + 1, hi', by rw [show ((lo : Int) + (hi' : Int)) / 2 + 1 = (((lo + hi') / 2 + 1 : Nat) : Int) by omega], rfl, by omega, hin, Nat.le_refl _, by have := G3.out.1 (HQ.out.1 hx); omega, h5, B2⟩
      · have hx' : 0 ≤ q := by omega
        have NX := Aside0.mk hx
        clear hx
        go_wp2_with (go_at_call 66; refine (HC.out _).mono ?_; rintro e w' ⟨rfl, hb⟩)
        have B2 := Aside0.mk (below_step B1.out hb)
        clear hb
        go_roundg ((lo + hi') / 2 - lo)
        case measure => omega
        case rel => exact ⟨lo, (lo + hi') / 2, rfl, by rw [show ((lo : Int) + (hi' : Int)) / 2 = (((lo + hi') / 2 : Nat) : Int) by omega], by omega, by omega, Nat.le_refl _, h4, Nat.le_of_not_lt (fun h => absurd (HQ.out.2 (G3.out.2 h)) (by have := NX.out; omega)), B2⟩
    · obtain rfl : hi' = lo := by omega
      obtain rfl : hi' = i := by omega
      by_cases hn : hi' < l.length
      · obtain ⟨ad, e1, c1, c2, c3⟩ := at_T54 HR.out (hi' : Int) (by omega) (by omega)
        cases e1
        replace c1 := (B1.out.cell (World.block_lt_of_cell? w _ c1)).trans c1
        replace c2 := (B1.out.cell (World.block_lt_of_cell? w _ c2)).trans c2
        replace c3 := (B1.out.cell (World.block_lt_of_cell? w _ c3)).trans c3
        rw [Int.toNat_natCast] at c1 c2 c3
        obtain ⟨x, hx⟩ : ∃ x, rd_T54 l (hi' : Int) = x := ⟨_, rfl⟩
        rw [hx] at c1 c2 c3
        obtain ⟨x0, x1, x2⟩ := x
        simp only at c1 c2 c3
        have X := Aside0.mk hx
        clear hx
        obtain ⟨q, hq⟩ : ∃ q, cmpI x0 s = q := ⟨_, rfl⟩
        have HC := Aside0.mk (fun W => hold1_calls x0 x1 x2 s hq W)
        have hq0 := cmpI_zero x0 s
        rw [hq] at hq0
        have HQ := Aside0.mk hq0
        clear hq hq0
        go_wp2_with (go_at_call 66; refine (HC.out _).mono ?_; rintro e w' ⟨rfl, hb⟩)
        have B2 := below_step B1.out hb
        go_ret2
        refine ⟨?_, B2⟩
        rw [X.out]
        have hiff := HQ.out
        by_cases h : x0 = s
        · simp [hn, h, hiff.2 h]
        · have : ¬ q = 0 := fun e => h (hiff.1 e)
          simp [hn, h, this]
      · go_wp2
        go_ret2
        exact ⟨by simp [hn], B1.out⟩

theorem slice_event {P : Program} {ops : Array Oper} {rest : List Oper} {o : Oper} {a : Act} {Q : Exit → Act → World → Prop} {W : World} (hgd : o.guard = none) {N : Tmp} (_hd : o.dst = some N) {cs : Array Value} {t : TypeId} {n c : Nat}
    (hrun : (execOp a.eval o).run P W = .ok (.value (.slice (some ⟨W.heap.size, 0, none⟩) n c)) (W.alloc (.cells cs t (0, 0))))
    (h : ∀ g, g = W.heap.size → ∀ w1, w1.heap[g]? = some (.cells cs t (0, 0)) → Below W.heap.size W w1 → wpList P ops Q rest (a.put o.dst (.slice (some ⟨g, 0, none⟩) n c)) w1) : wpList P ops Q (o :: rest) a W :=
  Kd.event_run hgd hrun (h _ rfl _ (blk_new W _) (below_alloc (Below.refl _ _) _))
theorem setCell_grown (w : World) (p : Addr) (u : Value) : w.grownBy (w.setCell p u) (some p.block) :=
  ⟨rfl, rfl, rfl, by simp, fun k hk hne => Below.heap_setCell w p u k (fun h => hne (by rw [h]))⟩
theorem ne_of_old {w : World} {g g' : Nat} {o : Obj} (h : w.heap[g]? = some o) (hg : g' = w.heap.size) : g ≠ g' := by have := blk_lt h; omega
theorem row_made {w : World} {base g : Nat} (hg : base ≤ g) (hb : w.heap[g]? = some (.cells #[] 54 (0, 0))) : Kd.R k54 54 w base (fun _ => True) (.slice (some ⟨g, 0, none⟩) 0 0) [] :=
  ⟨fun _ _ => trivial, [], ⟨by simp, .inr ⟨g, 0, #[], rfl, hg, hb, Nat.le_refl _, Nat.zero_le _, rfl, rfl⟩⟩, Reps.none _ _⟩
set_option maxHeartbeats 4000000 in
set_option maxRecDepth 100000 in
theorem clone_hold (A0 : Option Addr) (c0 : Nat) (l : List S54) (w : World) (hr : Kd.C k54 w A0 l.length l) (hc : l.length ≤ c0) (hlen : l.length ≤ 1024) :
    Calls Tryd.prog 64 #[.slice A0 l.length c0] w fun e w' => ∃ v, e = .returned v ∧ Kd.R k54 54 w' w.heap.size (fun _ => True) v l ∧ Below w.heap.size w w' := by
  have hus := Tryd.underlying29
  have hu := Tryd.underlying54
  have heq := fun (w : World) (a : Option Addr) (n c n' c' : Nat) => Lib.run_eql_slice_nil (P := Tryd.prog) w 29 54 a n c n' c' hus
  cases A0 with
  | none =>
    have hn : l = [] := by
      rcases Nat.eq_zero_or_pos l.length with h | h
      · exact List.length_eq_zero_iff.1 h
      · obtain ⟨ad, h, _⟩ := hr.2.2 h
        cases h
    subst hn
    go_enter Tryd.func64, Tryd.ntmps64
    go_wp2
    go_ret
    exact ⟨_, rfl, Kd.R_nil _ _ _ _ _, Below.refl _ _⟩
  | some ad =>
    obtain ⟨ab, ao, asp⟩ := ad
    have HR := Aside0.mk hr
    have LB := Aside0.mk (show (0 + l.length) * 24 ≤ 140737488355328 by omega)
    clear hr
    go_enter Tryd.func64, Tryd.ntmps64
    go_wp2_with (first
      | ((with_reducible refine gate_dst (N := 5) rfl ?_); refine slice_event (n := 0) (c := 0) ?hg (N := 5) ?hd (cs := #[]) (t := 54) ?hr ?_; (case hd => rfl); (case hg => rfl); (case hr => first | (go_simp; done) | (go_simp; rfl)); intro g hg w1 hbox hb; have n0_ := Aside0.mk (below_step (Below.refl w.heap.size w) hb); have GE := Aside0.mk (Nat.le_of_eq hg.symm : w.heap.size ≤ g); have n1_ := Aside0.mk (Kd.C_below HR.out hb); have n2_ := Aside0.mk (row_made GE.out hbox); clear hb hbox hg)
      | ((with_reducible refine gate_builtin (b := .append) (xs := #[.tmp 5, .tmp 6]) rfl ?_); at_builtin; refine Kd.R_append_rows k54 (w0 := w) w.heap.size rfl (.tmp 5) (.tmp 6) 29 54 _ 24 rfl Tryd.underlying29 info54 rfl (by decide) (by omega) (.slice (some ⟨g, 0, none⟩) 0 0) [] l (some ⟨ab, ao, asp⟩) l.length c0 (fun _ => True) (fun _ => False) (by rfl) (by rfl) n2_.out n1_.out (fun x cs h => by have e := k54_open h; subst e; exact k54_mkM _ _ _ x) (fun _ h => h.elim) (fun _ _ => trivial) n0_.out (below_size n0_.out) (by simpa using LB.out) ?_; intro v1 w2 ho hb hgr hat; have END := Aside0.mk (And.intro ho hb); clear ho hb hgr hat))
    go_ret
    exact ⟨v1, rfl, END.out.1, END.out.2⟩
end Go.Proofs.YtldpacphackdjaaDoor.Print
/- That (*cutter).flat answers whether all bands of the tariff have the rate of the first one. Condition: there is a band, and fewer than a thousand. -/
namespace Go.Proofs.YtldpacphackdjaaDoor.Print
open Go.RowKit Go.Proofs.YtldpacphackdjaaDoorW.PrintWords Go.Proofs.YtldpacphackdjaaDoorW.PrintLast Go.Proofs.YtldpacphackdjaaDoorW.PrintMore
set_option linter.unusedVariables false
set_option linter.unusedSimpArgs false
theorem band_diff (gr : Nat) (f x0 x1 : Int) (w : World) (hg : w.cell? ⟨gr, 0, none⟩ = some (.int .i64 f)) : Calls Tryd.prog 104 #[.agg #[.int .i64 x0, .int .i64 x1], .pointer (some ⟨gr, 0, none⟩)] w fun e w' => e = .returned (.bool (x1 != f)) ∧ Below w.heap.size w w' := by
  have hu70 := Tryd.underlying70
  have B0 := Aside0.mk (below_alloc (Below.refl w.heap.size w) (.cells #[.int .i64 x0, .int .i64 x1] 70))
  have hlt := World.block_lt_of_cell? w _ hg
  have h' : (w.alloc (.cells #[.int .i64 x0, .int .i64 x1] 70)).cell? ⟨gr, 0, none⟩ = some (.int .i64 f) := ((Below.alloc (Below.refl w.heap.size w) (Nat.le_refl _) _).cell hlt).trans hg
  clear hlt hg
  go_enter Tryd.func104, Tryd.ntmps104
  go_wp2
  go_ret
  exact ⟨rfl, B0.out⟩
set_option maxHeartbeats 4000000 in
set_option maxRecDepth 100000 in
theorem index_band (gr : Nat) (f : Int) (A0 : Option Addr) (c0 : Nat) (l : List S70) (w : World) (hr : Kd.C k70 w A0 l.length l) (hlen : l.length ≤ 1000) (hg : w.cell? ⟨gr, 0, none⟩ = some (.int .i64 f)) :
    Calls Tryd.prog 109 #[.slice A0 l.length c0, .func (.func 104) #[] #[.pointer (some ⟨gr, 0, none⟩)]] w fun e w' => (∃ r : Int, e = .returned (.int .i64 r) ∧ ((0 ≤ r ∧ ∃ j : Nat, j < l.length ∧ (rd_T70 l j).f1 ≠ f) ∨ (r < 0 ∧ ∀ j : Nat, j < l.length → (rd_T70 l j).f1 = f))) ∧ Below w.heap.size w w' := by
  have hu70 := Tryd.underlying70
  have HR := Aside0.mk hr
  have G0 := Aside0.mk hg
  have B0 := Aside0.mk (Below.refl w.heap.size w)
  clear hr hg
  go_enter Tryd.func109, Tryd.ntmps109
  go_wp2
  go_loopg [8] l.length (fun kx s8 wr => ∃ i : Nat, s8 = .int .i64 i ∧ i ≤ l.length ∧ l.length - i ≤ kx ∧ Aside0 (∀ j : Nat, j < i → (rd_T70 l j).f1 = f) ∧ Aside0 (Below w.heap.size w wr))
  case atStart => exact ⟨0, rfl, Nat.zero_le _, by omega, ⟨fun j hj => by omega⟩, B0⟩
  case round =>
    clear B0
    obtain ⟨i, rfl, hi, hk, HA, HB⟩ := hrel
    by_cases hlt : i < l.length
    · obtain ⟨ad, e1, c1, c2⟩ := at_T70 HR.out (i : Int) (by omega) (by omega)
      cases e1
      replace c1 := (HB.out.cell (World.block_lt_of_cell? w _ c1)).trans c1
      replace c2 := (HB.out.cell (World.block_lt_of_cell? w _ c2)).trans c2
      rw [Int.toNat_natCast] at c1 c2
      obtain ⟨x, hx⟩ : ∃ x, rd_T70 l (i : Int) = x := ⟨_, rfl⟩
      rw [hx] at c1 c2
      obtain ⟨x0, x1⟩ := x
      simp only at c1 c2
      have X := Aside0.mk hx
      clear hx
      have HC := Aside0.mk (band_diff gr f x0 x1 wr ((HB.out.cell (World.block_lt_of_cell? w _ G0.out)).trans G0.out))
      have HL := Aside0.mk hlt
      have HK := Aside0.mk hk
      by_cases he : x1 = f
      · have q1 : (x1 != f) = false := bne_eq_false_iff_eq.mpr he
        rw [q1] at HC
        have HE := Aside0.mk he
        clear q1 he
        go_wp2_with (go_at_call 104; refine HC.out.mono ?_; rintro e w' ⟨rfl, hb⟩)
        have B2 := Aside0.mk (below_step HB.out hb)
        clear hb
        go_roundg (l.length - (i + 1))
        case measure => have := HL.out; have := HK.out; omega
        case rel => exact ⟨i + 1, by go_num, by have := HL.out; omega, Nat.le_refl _, ⟨fun j hj => by
          by_cases hji : j = i
          · subst hji; rw [X.out]; exact HE.out
          · exact HA.out j (by omega)⟩, B2⟩
      · have q1 : (x1 != f) = true := bne_iff_ne.mpr he
        rw [q1] at HC
        have HE := Aside0.mk he
        clear q1 he
        go_wp2_with (go_at_call 104; refine HC.out.mono ?_; rintro e w' ⟨rfl, hb⟩)
        go_ret
        exact ⟨⟨(i : Int), rfl, .inl ⟨by omega, i, HL.out, by rw [X.out]; exact HE.out⟩⟩, below_step HB.out hb⟩
    · obtain rfl : i = l.length := by omega
      go_wp2
      go_ret
      exact ⟨⟨-1, rfl, .inr ⟨by omega, HA.out⟩⟩, HB.out⟩
/-- All bands have the first one's rate. -/
def flatB (l : List S70) : Prop := ∀ j : Nat, j < l.length → (rd_T70 l j).f1 = (rd_T70 l (0 : Int)).f1
theorem contains_band_flat (gr : Nat) (f : Int) (A0 : Option Addr) (c0 : Nat) (l : List S70) (w : World) (hr : Kd.C k70 w A0 l.length l) (hlen : l.length ≤ 1000) (hg : w.cell? ⟨gr, 0, none⟩ = some (.int .i64 f)) :
    Calls Tryd.prog 103 #[.slice A0 l.length c0, .func (.func 104) #[] #[.pointer (some ⟨gr, 0, none⟩)]] w fun e w' => (∃ b : Bool, e = .returned (.bool b) ∧ (b = false ↔ ∀ j : Nat, j < l.length → (rd_T70 l j).f1 = f)) ∧ Below w.heap.size w w' := by
  have HC := Aside0.mk (index_band gr f A0 c0 l w hr hlen hg)
  clear hr hg
  go_enter Tryd.func103, Tryd.ntmps103
  go_wp2_with (go_at_call 109; refine HC.out.mono ?_; rintro e w' ⟨⟨r, rfl, hrr⟩, hb⟩)
  go_ret
  refine ⟨⟨_, rfl, ?_⟩, hb⟩
  rcases hrr with ⟨h0, j, hj, hne⟩ | ⟨h0, ha⟩
  · rw [decide_eq_true h0]
    exact ⟨fun h => (by cases h), fun h => absurd (h j hj) hne⟩
  · rw [decide_eq_false (by omega)]
    exact ⟨fun _ => ha, fun _ => rfl⟩
set_option maxHeartbeats 1000000 in
set_option maxRecDepth 100000 in
theorem flat_calls (g : Nat) (A0 : Option Addr) (c0 : Nat) (l : List S70) (w : World) (hr : Kd.C k70 w A0 l.length l) (hlen : l.length ≤ 1000) (hpos : 0 < l.length) (hg : w.cell? ⟨g, 0, none⟩ = some (.slice A0 l.length c0)) :
    Calls Tryd.prog 92 #[.pointer (some ⟨g, 0, none⟩)] w fun e w' => (∃ b : Bool, e = .returned (.bool b) ∧ (b = true ↔ flatB l)) ∧ Below w.heap.size w w' := by
  have hu95 := Tryd.underlying95
  have hu24 := Tryd.underlying24
  have hu70 := Tryd.underlying70
  obtain ⟨ad, e1, c1, c2⟩ := at_T70 hr (0 : Int) (by omega) (by omega)
  cases e1
  simp only [show (0 : Int).toNat = 0 from rfl, Nat.zero_mul] at c1 c2
  obtain ⟨f, hf⟩ : ∃ f, (rd_T70 l (0 : Int)).f1 = f := ⟨_, rfl⟩
  rw [hf] at c2
  replace c2 : w.cell? ⟨ad.block, ad.off + 1, none⟩ = some (.int .i64 f) := c2
  have F0 := Aside0.mk hf
  have B0 := Aside0.mk (below_alloc (Below.refl w.heap.size w) (.cells #[.int .i64 f] 3))
  have g1 := (B0.out.cell (World.block_lt_of_cell? w _ hg)).trans hg
  have HC := Aside0.mk (contains_band_flat w.heap.size f (some ad) c0 l (w.alloc (.cells #[.int .i64 f] 3)) (Kd.C_below hr B0.out) hlen ((blk_cell (blk_new w _) 0).trans rfl))
  clear hr c1 hf
  go_enter Tryd.func92, Tryd.ntmps92
  go_wp2_with (go_at_call 103; refine HC.out.mono ?_; rintro e w' ⟨⟨b, rfl, hbb⟩, hb⟩)
  go_ret
  refine ⟨⟨_, rfl, ?_⟩, below_step B0.out hb⟩
  unfold flatB
  rw [F0.out, ← hbb]
  cases b <;> simp
end Go.Proofs.YtldpacphackdjaaDoor.Print
/- That digits.Valid answers true at the number "1". No conditions. -/
namespace Go.Proofs.YtldpacphackdjaaDoor.Print
open Go.RowKit Go.Proofs.YtldpacphackdjaaDoorW.PrintWords Go.Proofs.YtldpacphackdjaaDoorW.PrintLast Go.Proofs.YtldpacphackdjaaDoorW.PrintMore
set_option linter.unusedVariables false
set_option linter.unusedSimpArgs false
def one1 : ByteArray := ⟨#[49]⟩
theorem nodigit1 (w : World) : Calls Tryd.prog 101 #[.int .i32 49] w fun e w' => e = .returned (.bool false) ∧ Below w.heap.size w w' := by
  go_enter Tryd.func101, Tryd.ntmps101
  go_wp2
  go_ret
  exact ⟨rfl, by repeat (first | exact Below.refl _ _ | apply below_alloc | apply below_drew | apply pw_below_drewN)⟩
set_option maxHeartbeats 4000000 in
set_option maxRecDepth 100000 in
theorem indexFunc_one (w : World) : Calls Tryd.prog 114 #[.string one1, .func (.func 101) #[] #[], .bool true] w fun e w' => e = .returned (.int .i64 (-1)) ∧ Below w.heap.size w w' := by
  have hu9 := Tryd.underlying9
  have hk0 : (w.iter one1 0).heap[w.heap.size]? = some (.stringIter one1 0) := World.iter_heap w one1 0
  have hb0 : Below w.heap.size w (w.iter one1 0) := (Below.refl _ w).alloc (Nat.le_refl _) _
  have HC := Aside0.mk nodigit1
  have hs : one1.size = 1 := rfl
  go_enter Tryd.func114, Tryd.ntmps114
  go_wp2
  go_loopg [] 2 (fun kx wr => ∃ pos : Nat, pos ≤ 1 ∧ 2 - pos ≤ kx ∧ wr.heap[w.heap.size]? = some (.stringIter one1 pos) ∧ Aside0 (Below w.heap.size w wr))
  case atStart => exact ⟨0, by omega, by omega, hk0, ⟨hb0⟩⟩
  case round =>
    obtain ⟨pos, hps, hg, hk, HB⟩ := hrel
    clear hk0 hb0
    by_cases hp : pos < 1
    · obtain rfl : pos = 0 := by omega
      have hnext : ∀ ty, (Instr.next (.pointer (some ⟨w.heap.size, 0, none⟩)) true ty).run Tryd.prog wr = .ok (.tuple #[.bool true, .int .i64 0, .int .i32 49]) (wr.iterAt w.heap.size one1 1) := fun ty => Lib.run_next_ascii_at wr w.heap.size one1 0 ty hk (by rw [hs]; omega) (by show (49 : UInt8).toNat < 128; decide)
      have hk1 := Lib.iterAt_heap wr w.heap.size one1 0 1 hk
      have hnx1 : Below w.heap.size w (wr.iterAt w.heap.size one1 1) := Lib.below_iterAt HB.out (Nat.le_refl _) one1 1
      have hlt : w.heap.size < (wr.iterAt w.heap.size one1 1).heap.size := (Array.getElem?_eq_some_iff.1 hk1).1
      have HK1 := Aside0.mk hk1
      have HN1 := Aside0.mk hnx1
      have HLT := Aside0.mk hlt
      have HG := Aside0.mk hg
      clear hk HB hk1 hnx1 hlt hg
      generalize wr.iterAt w.heap.size one1 1 = W1 at hnext HK1 HN1 HLT
      go_wp2_with (go_at_call 101; refine (HC.out _).mono ?_; rintro e W2 ⟨rfl, hb⟩)
      have B2 := Aside0.mk (below_step HN1.out hb)
      have K2 := (hb.block _ HLT.out).trans HK1.out
      clear hb
      go_roundg 1
      case measure => have := HG.out; omega
      case rel => exact ⟨1, by omega, by omega, K2, B2⟩
    · obtain rfl : pos = 1 := by omega
      have hnext : ∀ ty, (Instr.next (.pointer (some ⟨w.heap.size, 0, none⟩)) true ty).run Tryd.prog wr = .ok (.tuple #[.bool false]) wr := fun ty => Lib.run_next_end_at wr w.heap.size one1 1 ty hk (by rw [hs]; omega)
      go_wp2
      go_ret
      exact ⟨rfl, HB.out⟩
theorem indexF_one (w : World) : Calls Tryd.prog 108 #[.string one1, .func (.func 101) #[] #[]] w fun e w' => e = .returned (.int .i64 (-1)) ∧ Below w.heap.size w w' := by
  have HC := Aside0.mk (indexFunc_one w)
  go_enter Tryd.func108, Tryd.ntmps108
  go_wp2_with (go_at_call 114; refine HC.out.mono ?_; rintro e w' ⟨rfl, hb⟩)
  go_ret
  exact ⟨rfl, hb⟩
theorem containsF_one (w : World) : Calls Tryd.prog 102 #[.string one1, .func (.func 101) #[] #[]] w fun e w' => e = .returned (.bool false) ∧ Below w.heap.size w w' := by
  have HC := Aside0.mk (indexF_one w)
  go_enter Tryd.func102, Tryd.ntmps102
  go_wp2_with (go_at_call 108; refine HC.out.mono ?_; rintro e w' ⟨rfl, hb⟩)
  go_ret
  exact ⟨rfl, hb⟩
theorem only_one (w : World) : Calls Tryd.prog 90 #[.string one1, .int .i64 1, .int .i64 15] w fun e w' => e = .returned (.bool true) ∧ Below w.heap.size w w' := by
  have HC := Aside0.mk (containsF_one w)
  have hs : one1.size = 1 := rfl
  go_enter Tryd.func90, Tryd.ntmps90
  go_wp2_with (go_at_call 102; refine HC.out.mono ?_; rintro e w' ⟨rfl, hb⟩)
  go_ret
  exact ⟨rfl, hb⟩
theorem valid_one (w : World) : Calls Tryd.prog 70 #[.string one1] w fun e w' => e = .returned (.bool true) ∧ Below w.heap.size w w' := by
  have HC := Aside0.mk (only_one w)
  go_enter Tryd.func70, Tryd.ntmps70
  go_wp2_with (go_at_call 90; refine HC.out.mono ?_; rintro e w' ⟨rfl, hb⟩)
  go_ret
  exact ⟨rfl, hb⟩
end Go.Proofs.YtldpacphackdjaaDoor.Print
/- That tariff.band answers the index of the band of a second, for every valid tariff and every second of a day. -/
namespace Go.Proofs.YtldpacphackdjaaDoor.Print
open Go.RowKit Go.Proofs.YtldpacphackdjaaDoorW.PrintWords Go.Proofs.YtldpacphackdjaaDoorW.PrintLast Go.Proofs.YtldpacphackdjaaDoorW.PrintMore
set_option linter.unusedVariables false
set_option linter.unusedSimpArgs false

set_option maxHeartbeats 1000000 in
theorem band1_calls (a b s : Int) (w : World) (h0 : 0 ≤ a) (h1 : a ≤ 86399) (h2 : 0 ≤ s) (h3 : s ≤ 86399) :
    Calls Tryd.prog 87 #[.agg #[.int .i64 a, .int .i64 b], .int .i64 s] w fun e w' => e = .returned (.int .i64 (a - s)) ∧ Below w.heap.size w w' := by
  have hu := Tryd.underlying70
  go_enter Tryd.func87, Tryd.ntmps87
  go_wp2
  go_ret
  exact ⟨rfl, by repeat (first | exact Below.refl _ _ | apply below_alloc | apply below_drew)⟩

set_option maxHeartbeats 4000000 in
set_option maxRecDepth 100000 in
theorem bsearch_band (A0 : Option Addr) (c0 : Nat) (l : List S70) (s : Int) (i : Nat) (w : World) (hr : Kd.C k70 w A0 l.length l) (hi : i ≤ l.length) (hlen : l.length ≤ 24) (h2 : 0 ≤ s) (h3 : s ≤ 86399)
    (hb : ∀ j : Nat, j < l.length → 0 ≤ (rd_T70 l j).f0 ∧ (rd_T70 l j).f0 ≤ 86399 ∧ ((rd_T70 l j).f0 < s ↔ j < i)) :
    Calls Tryd.prog 86 #[.slice A0 l.length c0, .int .i64 s, .func (.func 87) #[] #[]] w fun e w' => e = .returned (.tuple #[.int .i64 (i : Int), .bool (decide (i < l.length) && decide ((rd_T70 l i).f0 = s))]) ∧ Below w.heap.size w w' := by
  have hu := Tryd.underlying70
  have HR := Aside0.mk hr
  have HB := Aside0.mk hb
  have B0 := Aside0.mk (Below.refl w.heap.size w)
  clear hr hb
  go_enter Tryd.func86, Tryd.ntmps86
  go_wp2
  go_loopg [9, 10] l.length (fun kx s9 s10 wr => ∃ lo hi : Nat, s9 = .int .i64 lo ∧ s10 = .int .i64 hi ∧ lo ≤ hi ∧ hi ≤ l.length ∧ hi - lo ≤ kx ∧ lo ≤ i ∧ i ≤ hi ∧ Aside0 (Below w.heap.size w wr))
  case atStart => exact ⟨0, l.length, rfl, rfl, Nat.zero_le _, Nat.le_refl _, by omega, Nat.zero_le _, hi, B0⟩
  case round =>
    clear B0
    obtain ⟨lo, hi', rfl, rfl, hlh, hin, hg, h4, h5, B1⟩ := hrel
    by_cases hlt : lo < hi'
    · have hql : (lo + hi') / 2 < l.length := by omega
      obtain ⟨g1, g2, g3⟩ := HB.out ((lo + hi') / 2) hql
      obtain ⟨ad, e1, c1, c2⟩ := at_T70 HR.out (((lo + hi') / 2 : Nat) : Int) (by omega) (by omega)
      cases e1
      replace c1 := (B1.out.cell (World.block_lt_of_cell? w _ c1)).trans c1
      replace c2 := (B1.out.cell (World.block_lt_of_cell? w _ c2)).trans c2
      rw [Int.toNat_natCast] at c1 c2
      generalize rd_T70 l (((lo + hi') / 2 : Nat) : Int) = x at c1 c2 g1 g2 g3
      obtain ⟨x0, x1⟩ := x
      simp only at c1 c2 g1 g2 g3
      have G3 := Aside0.mk g3
      clear g3
      have HC := Aside0.mk (fun W => band1_calls x0 x1 s W g1 g2 h2 h3)
      by_cases hx : x0 < s
      · go_wp2_with (go_at_call 87; refine (HC.out _).mono ?_; rintro e w' ⟨rfl, hb⟩)
        have B2 := Aside0.mk (below_step B1.out hb)
        clear hb
        go_roundg (hi' - ((lo + hi') / 2 + 1))
        case measure => omega
        case rel => exact ⟨(lo + hi') / 2 + 1, hi', by rw [show ((lo : Int) + (hi' : Int)) / 2 + 1 = (((lo + hi') / 2 + 1 : Nat) : Int) by omega], rfl, by omega, hin, Nat.le_refl _, by have := G3.out.1 hx; omega, h5, B2⟩
      · have hx' : s ≤ x0 := by omega
        go_wp2_with (go_at_call 87; refine (HC.out _).mono ?_; rintro e w' ⟨rfl, hb⟩)
        have B2 := Aside0.mk (below_step B1.out hb)
        clear hb
        go_roundg ((lo + hi') / 2 - lo)
        case measure => omega
        case rel => exact ⟨lo, (lo + hi') / 2, rfl, by rw [show ((lo : Int) + (hi' : Int)) / 2 = (((lo + hi') / 2 : Nat) : Int) by omega], by omega, by omega, Nat.le_refl _, h4, Nat.le_of_not_lt (fun h => absurd (G3.out.2 h) (by omega)), B2⟩
    · obtain rfl : hi' = lo := by omega
      obtain rfl : hi' = i := by omega
      by_cases hn : hi' < l.length
      · obtain ⟨g1, g2, g3⟩ := HB.out hi' hn
        obtain ⟨ad, e1, c1, c2⟩ := at_T70 HR.out (hi' : Int) (by omega) (by omega)
        cases e1
        replace c1 := (B1.out.cell (World.block_lt_of_cell? w _ c1)).trans c1
        replace c2 := (B1.out.cell (World.block_lt_of_cell? w _ c2)).trans c2
        rw [Int.toNat_natCast] at c1 c2
        obtain ⟨x, hx⟩ : ∃ x, rd_T70 l (hi' : Int) = x := ⟨_, rfl⟩
        rw [hx] at c1 c2 g1 g2
        obtain ⟨x0, x1⟩ := x
        simp only at c1 c2 g1 g2
        have X := Aside0.mk hx
        clear g3 hx
        have HC := Aside0.mk (fun W => band1_calls x0 x1 s W g1 g2 h2 h3)
        go_wp2_with (go_at_call 87; refine (HC.out _).mono ?_; rintro e w' ⟨rfl, hb⟩)
        have B2 := below_step B1.out hb
        go_ret2
        refine ⟨?_, B2⟩
        rw [X.out]
        by_cases h : x0 = s
        · simp [hn, h]
        · simp [hn, h]
          omega
      · go_wp2
        go_ret2
        exact ⟨by simp [hn], B1.out⟩

set_option maxHeartbeats 4000000 in
set_option maxRecDepth 100000 in
theorem tariff_band.calls (A0_0 : Option Addr) (c0_0 : Nat) (l0_0 : List S70) (a1 : Int) (r : Int) (w : World) (hr0_0 : Kd.C k70 w A0_0 l0_0.length l0_0) (hc0_0 : l0_0.length ≤ c0_0) (h : tariff_band.f l0_0 a1 = some r) :
    Calls Tryd.prog 63 #[.agg #[.slice A0_0 l0_0.length c0_0], .int .i64 a1] w fun e w' => e = .returned (.int .i64 r) ∧ Below w.heap.size w w' := by
  have hu := Tryd.underlying24
  unfold tariff_band.f at h
  by_cases hg : good l0_0 = true ∧ 0 ≤ a1 ∧ a1 ≤ 86399
  · rw [if_pos hg] at h
    obtain rfl := Option.some.inj h
    obtain ⟨hg, h2, h3⟩ := hg
    obtain ⟨i, hi⟩ : ∃ i, i = upTo (a1 - 1) l0_0 := ⟨_, rfl⟩
    have hil : i ≤ l0_0.length := by rw [hi]; exact upTo_le _ _
    have hbs := fun W (hW : Below w.heap.size w W) => bsearch_band A0_0 c0_0 l0_0 a1 i W (Kd.C_below hr0_0 hW) hil (good_len hg).2 h2 h3 (fun j hj => ⟨by have := (good_at hg j hj); omega, (good_at hg j hj).2.1, by have := good_upTo hg (a1 - 1) j hj; rw [← hi] at this; omega⟩)
    have HS := Aside0.mk hbs
    have hp := good_upTo_pos hg a1 h2
    have hq := upTo_le a1 l0_0
    have hres : (i < l0_0.length ∧ (rd_T70 l0_0 i).f0 = a1 ∧ upTo a1 l0_0 = i + 1) ∨ (¬ (i < l0_0.length ∧ (rd_T70 l0_0 i).f0 = a1) ∧ upTo a1 l0_0 = i) := by
      have key : ∀ j, j < l0_0.length → (j < upTo a1 l0_0 ↔ (j < i ∨ (rd_T70 l0_0 j).f0 = a1)) := fun j hj => by
        have e1 := good_upTo hg a1 j hj
        have e2 := good_upTo hg (a1 - 1) j hj
        rw [← hi] at e2
        omega
      by_cases hb : i < l0_0.length ∧ (rd_T70 l0_0 i).f0 = a1
      · refine .inl ⟨hb.1, hb.2, ?_⟩
        have k1 := (key i hb.1).2 (.inr hb.2)
        by_cases hn : i + 1 < l0_0.length
        · have k2 := key (i + 1) hn
          have e2 := goodStep hg i hn
          omega
        · omega
      · refine .inr ⟨hb, ?_⟩
        have k3 : i ≤ upTo a1 l0_0 := by
          by_cases h0 : i = 0
          · omega
          · have := (key (i - 1) (by omega)).2 (.inl (by omega)); omega
        by_cases hn : i < l0_0.length
        · have k2 := key i hn
          have : ¬ (rd_T70 l0_0 i).f0 = a1 := fun h => hb ⟨hn, h⟩
          omega
        · omega
    clear hbs hi
    have HP := Aside0.mk hp
    have HQ := Aside0.mk hq
    clear hp hq hr0_0 h
    rcases hres with ⟨r1, r2, r3⟩ | ⟨r1, r3⟩
    · have r4 : (decide (i < l0_0.length) && decide ((rd_T70 l0_0 i).f0 = a1)) = true := by simp [r1, r2]
      rw [r3]
      simp only [r4] at HS
      clear r1 r2 r3 r4
      go_enter Tryd.func63, Tryd.ntmps63
      go_wp2_with (go_at_call 86; refine (HS.out _ (below_alloc (Below.refl _ _) _)).mono ?_; rintro e w' ⟨rfl, hb⟩)
      go_ret
      exact ⟨by simp, below_step (below_alloc (Below.refl _ _) _) hb⟩
    · have r4 : (decide (i < l0_0.length) && decide ((rd_T70 l0_0 i).f0 = a1)) = false := by
        rw [Bool.eq_false_iff]
        intro h
        simp only [Bool.and_eq_true, decide_eq_true_eq] at h
        exact r1 h
      have p1 : 1 ≤ i := by rw [← r3]; exact HP.out
      have p2 : i ≤ 24 := by have := (good_len hg).2; omega
      rw [r3]
      simp only [r4] at HS
      clear r1 r3 r4
      go_enter Tryd.func63, Tryd.ntmps63
      go_wp2_with (go_at_call 86; refine (HS.out _ (below_alloc (Below.refl _ _) _)).mono ?_; rintro e w' ⟨rfl, hb⟩)
      go_ret
      exact ⟨rfl, below_step (below_alloc (Below.refl _ _) _) hb⟩
  · rw [if_neg hg] at h
    exact absurd h (by simp)
end Go.Proofs.YtldpacphackdjaaDoor.Print
/- That the call of function 33 (tariff_Rate) answers what the Lean function of the same name answers, at every input at which that one answers. (Written by a program of the session, which drives the kit's printer.) -/
namespace Go.Proofs.YtldpacphackdjaaDoor.Print
open Go.RowKit Go.Proofs.YtldpacphackdjaaDoorW.PrintWords Go.Proofs.YtldpacphackdjaaDoorW.PrintLast Go.Proofs.YtldpacphackdjaaDoorW.PrintMore
attribute [local go_sem] max2_int min2_int max_two min_two max_three min_three max_four min_four   -- for this text's walks alone
set_option linter.unusedVariables false
set_option linter.unusedSimpArgs false

/-! ### tariff_Rate: function 33 -/
def tariff_Rate.f (k : Nat) (l0_0 : List (S70)) (a1 : Int) : Option (Int × Int) := (tariff_Check.f k l0_0).bind fun t472 => (if t472 = 0 then ((tariff_within.f a1 0 1099511627776).bind fun t473 => (if t473 = true then ((tariff_band.f l0_0 (Int.tmod a1 86400)).bind fun t474 => (if 0 ≤ t474 then (if t474 < (l0_0.length : Int) then (some ((rd_T70 l0_0 t474).f1, 0)) else (none)) else (none))) else (some (0, 1)))) else (some (0, t472)))
def tariff_Rate.T6 : Bool × List (List Nat × List Nat) := (true, [([], []), ([0], [0]), ([], []), ([], []), ([3], [3]), ([2, 4], [2, 4]), ([1, 5], [1, 5]), ([6], [6]), ([7], [7]), ([8, 5, 0, 1, 2, 3, 4, 5, 6, 7, 8], [8]), ([9, 0, 1, 2, 3, 4, 5, 6, 7, 8, 9], [])])
def tariff_Rate.B6 : List Nat := [0, 1, 0, 0, 8, 28, 63, 127, 255, 511, 1023]
theorem tariff_Rate.tab6 : rtab .any (opsOf Tryd.f33 6) = tariff_Rate.T6 := by kernel_rfl
theorem tariff_Rate.bits6 : waitsOk tariff_Rate.T6.2 tariff_Rate.B6 = true := by kernel_rfl
set_option maxHeartbeats 8000000 in
set_option maxRecDepth 100000 in
theorem tariff_Rate.calls (k : Nat) (A0_0 : Option Addr) (c0_0 : Nat) (l0_0 : List (S70)) (a1 : Int) (r1 : Int) (r2 : Int) (w : World) (hr0_0 : Kd.C k70 w A0_0 l0_0.length l0_0) (hc0_0 : l0_0.length ≤ c0_0) (h : tariff_Rate.f k l0_0 a1 = some (r1, r2)) :
  Calls Tryd.prog 33 #[.agg #[.slice A0_0 l0_0.length c0_0], .int .i64 a1] w fun e w' => e = .returned (.tuple #[.int .i64 r1, .int .i64 r2]) ∧ Below w.heap.size w w' := by
 have hu24 := Tryd.underlying24
 have HR0_0 := Aside0.mk hr0_0
 have HC0_0 := Aside0.mk hc0_0
 clear hr0_0 hc0_0
 have HB := Aside0.mk (Below.refl w.heap.size w)
 have H : ((tariff_Check.f k l0_0).bind fun t472 => (if t472 = 0 then ((tariff_within.f a1 0 1099511627776).bind fun t473 => (if t473 = true then ((tariff_band.f l0_0 (Int.tmod a1 86400)).bind fun t474 => (if 0 ≤ t474 then (if t474 < (l0_0.length : Int) then (some ((rd_T70 l0_0 t474).f1, 0)) else (none)) else (none))) else (some (0, 1)))) else (some (0, t472)))) = some (r1, r2) := h
 clear h
 replace H := Option.bind_eq_some_iff.mp H
 obtain ⟨t472, A30, H⟩ := H
 replace H : (if t472 = 0 then ((tariff_within.f a1 0 1099511627776).bind fun t473 => (if t473 = true then ((tariff_band.f l0_0 (Int.tmod a1 86400)).bind fun t474 => (if 0 ≤ t474 then (if t474 < (l0_0.length : Int) then (some ((rd_T70 l0_0 t474).f1, 0)) else (none)) else (none))) else (some (0, 1)))) else (some (0, t472))) = some (r1, r2) := H
 have A3 := Aside0.mk A30
 clear A30
 by_cases c4 : t472 = 0
 ·rw [if_pos c4] at H
  have c4b0 : (t472 == 0) = true := beq_iff_eq.mpr c4
  have c4b1 : (t472 != 0) = false := bne_eq_false_iff_eq.mpr c4
  clear c4
  replace H := Option.bind_eq_some_iff.mp H
  obtain ⟨t473, A50, H⟩ := H
  replace H : (if t473 = true then ((tariff_band.f l0_0 (Int.tmod a1 86400)).bind fun t474 => (if 0 ≤ t474 then (if t474 < (l0_0.length : Int) then (some ((rd_T70 l0_0 t474).f1, 0)) else (none)) else (none))) else (some (0, 1))) = some (r1, r2) := H
  have A5 := Aside0.mk A50
  clear A50
  by_cases c6 : t473 = true
  ·subst c6
   have H1 : ((tariff_band.f l0_0 (Int.tmod a1 86400)).bind fun t474 => (if 0 ≤ t474 then (if t474 < (l0_0.length : Int) then (some ((rd_T70 l0_0 t474).f1, 0)) else (none)) else (none))) = some (r1, r2) := by rw [if_pos rfl] at H; exact H
   clear H
   have H := H1
   clear H1
   replace H := Option.bind_eq_some_iff.mp H
   obtain ⟨t474, A70, H⟩ := H
   replace H : (if 0 ≤ t474 then (if t474 < (l0_0.length : Int) then (some ((rd_T70 l0_0 t474).f1, 0)) else (none)) else (none)) = some (r1, r2) := H
   have A7 := Aside0.mk A70
   clear A70
   by_cases c8 : 0 ≤ t474
   ·rw [if_pos c8] at H
    have c8b0 : decide (0 ≤ t474) = true := decide_eq_true c8
    clear c8
    by_cases c9 : t474 < (l0_0.length : Int)
    ·rw [if_pos c9] at H
     have c9b0 : decide (t474 < (l0_0.length : Int)) = true := decide_eq_true c9
     clear c9
     simp only [Option.some.injEq, Prod.mk.injEq] at H
     obtain ⟨rfl, rfl⟩ := H
     go_enter Tryd.func33, Tryd.ntmps33
     try go_wp2_with (first | ((with_reducible refine gate_dst (N := 2) rfl ?_); refine box_event ?hg (N := 2) ?hd (cs := #[.slice A0_0 l0_0.length c0_0]) (t := 24) ?hr ?_; (case hd => rfl); (case hg => rfl); (case hr => first | (go_simp; done) | (go_simp; rfl)); intro gb471 hg w10 hbox hb; have n0_ := ls0 HB hb; have n1_ := Aside0.mk (hbox); have n2_ := Aside0.mk ((by rw [hg]; exact (below_size (lb0 HB)) : w.heap.size ≤ gb471)); have n3_ := Aside0.mk ((by rw [hg]; exact (below_size (lb0 HB)) : w.heap.size ≤ gb471)); clear HB; have HB := n0_; have BK471 := n1_; have GW471 := n2_; have GE471 := n3_; clear n0_ n1_ n2_ n3_; clear hb hbox hg; have hcz11_0 := bc BK471 0; have hfz11_0 := blk_frozen BK471.out 0) | ((with_reducible refine gate_callee (f := 12) rfl ?_); refine goesL_ (some 8) rfl rfl Tryd.func12 (by kernel_rfl) rfl #[.agg #[.slice A0_0 l0_0.length c0_0]] rfl (by (try simp only [List.map_toArray, List.map_cons, List.map_nil]); first | done | rfl | (simp only [List.length_drop, List.length_take]; rfl)) ?_; (with_reducible refine (tariff_Check.calls k _ _ l0_0 t472 _ ?side1 ?side2 A3.out).mono ?_); (case side1 => repeat (first | exact (Kd.C_below HR0_0.out HB.out) | (with_reducible refine Kd.C_alloc ?_ _) | (with_reducible refine Kd.C_drewN ?_ _) | (with_reducible refine Kd.C_drew ?_))); (case side2 => exact HC0_0.out); rintro e w12 ⟨rfl, hb⟩; refine ⟨_, rfl, ?_⟩; have n0_ := kl BK471 hb; have n1_ := ls1 HB GE471 hb; clear BK471; clear HB; have BK471 := n0_; have HB := n1_; clear n0_ n1_; (try clear hb); (try clear hb2); (try clear hk); (try clear hi)) | ((with_reducible refine gate_callee (f := 34) rfl ?_); refine goesL_ (some 13) rfl rfl Tryd.func34 (by kernel_rfl) rfl #[.int .i64 a1, .int .i64 0, .int .i64 1099511627776] rfl (by (try simp only [List.map_toArray, List.map_cons, List.map_nil]); first | done | rfl | (simp only [List.length_drop, List.length_take]; rfl)) ?_; (with_reducible refine (tariff_within.calls a1 0 1099511627776 true _ A5.out).mono ?_); rintro e w' ⟨rfl, ⟨nd, rfl⟩⟩; refine ⟨_, rfl, ?_⟩))
     (try (rw [drewN_self w12]; generalize hq_ : World.drewN w12 _ = w12; have n0_ : Aside0 (w12.heap[gb471]? = some (.cells #[.slice A0_0 l0_0.length c0_0] 24 (0, 0))) := ⟨by rw [← hq_]; exact (kb BK471)⟩; have n1_ : Aside0 (Below w.heap.size w w12) := ⟨by rw [← hq_]; exact (lb1 HB GE471)⟩; clear BK471 HB hq_; have BK471 := n0_; have HB := n1_; clear n0_ n1_))
     have n0_ := Aside0.mk (blk_drew BK471.out)
     have n1_ := Aside0.mk (below_drew1 HB.out)
     clear BK471
     clear HB
     have BK471 := n0_
     have HB := n1_
     clear n0_ n1_
     have p475 : 0 ≤ (t474 : Int) := of_decide_eq_true (by first | (with_reducible assumption) | assumption)
     have q475 : t474 < (l0_0.length : Int) := of_decide_eq_true (by first | (with_reducible assumption) | assumption)
     obtain ⟨ad475, e475, hx475_0, hx475_1⟩ := at_T70 HR0_0.out t474 p475 q475
     have hw475_1 := hx475_1
     have hw475_0 := hx475_0
     cases e475
     replace hx475_0 := (HB.out.cell (World.block_lt_of_cell? w _ hx475_0)).trans hx475_0
     replace hx475_1 := (HB.out.cell (World.block_lt_of_cell? w _ hx475_1)).trans hx475_1
     replace p475 := eq_true p475
     replace q475 := eq_true q475
     refine start_ (n := 11) (S := fun w' => w'.cell? ⟨gb471, 0, none⟩ = some (.slice (some ad475) l0_0.length c0_0) ∧ w'.cell? (ad475.add ((t474).toNat * 2)) = some (.int .i64 ((rd_T70 l0_0 t474).f0)) ∧ w'.cell? ⟨(ad475.add ((t474).toNat * 2)).block, (ad475.add ((t474).toNat * 2)).off + 1, none⟩ = some (.int .i64 ((rd_T70 l0_0 t474).f1))) (ds := []) #[false, false, false, false, false, false, false, false, false, false, false] (by kernel_rfl) rfl rfl ⟨(blk_cell BK471.out 0).trans rfl, ((HB.out.cell (World.block_lt_of_cell? w _ hw475_0)).trans hw475_0), ((HB.out.cell (World.block_lt_of_cell? w _ hw475_1)).trans hw475_1)⟩ (fun hHeld => ?_); refine with_tabW tariff_Rate.tab6 tariff_Rate.bits6 (fun HT_ HW_ => ?_)
     generalize w12.drew = w13 at BK471 HB hx475_0 hx475_1 hHeld ⊢
     refine p_ 0 15 HT_ ?_
     refine p_ 3 18 HT_ ?_
     refine p_ 4 19 HT_ ?_
     refine t_ 1 16 HT_ HW_ rfl rfl hHeld (by rintro w' ⟨s0, s1, s2⟩; go_simp; with_reducible rfl) ?_
     refine t_ 2 17 HT_ HW_ rfl rfl hHeld (by rintro w' ⟨s0, s1, s2⟩; go_simp; with_reducible rfl) ?_
     refine o_ 5 20 HT_ (fun K hK => ?_)
     refine goes_ Tryd.func63 (by kernel_rfl) rfl #[.agg #[.slice (some ad475) l0_0.length c0_0], .int .i64 (Int.tmod a1 86400)] (by rfl) rfl rfl (by (try simp only [List.map_toArray, List.map_cons, List.map_nil]); first | done | rfl | (simp only [List.length_drop, List.length_take]; rfl)) ?_
     with_reducible refine (tariff_band.calls _ _ l0_0 (Int.tmod a1 86400) t474 _ ?side1 ?side2 A7.out).mono ?_
     (case side1 => repeat (first | exact (Kd.C_below HR0_0.out HB.out) | (with_reducible refine Kd.C_alloc ?_ _) | (with_reducible refine Kd.C_drewN ?_ _) | (with_reducible refine Kd.C_drew ?_)))
     (case side2 => exact HC0_0.out)
     rintro e w14 ⟨rfl, hb⟩
     refine ⟨_, rfl, ?_⟩
     have n0_ := kl BK471 hb
     have n1_ := ls1 HB GE471 hb
     clear BK471
     clear HB
     have BK471 := n0_
     have HB := n1_
     clear n0_ n1_
     (try clear hb)
     (try clear hb2)
     (try clear hk)
     (try clear hi)
     refine hK.out _ _ ⟨(blk_cell BK471.out 0).trans rfl, ((HB.out.cell (World.block_lt_of_cell? w _ hw475_0)).trans hw475_0), ((HB.out.cell (World.block_lt_of_cell? w _ hw475_1)).trans hw475_1)⟩ (fun hHeld => ?_)
     clear hK K
     refine n_ 20 ?_
     refine p_ 6 21 HT_ ?_
     refine p_ 7 22 HT_ ?_
     refine t_ 8 23 HT_ HW_ rfl rfl hHeld (by rintro w' ⟨s0, s1, s2⟩; go_simp; with_reducible rfl) ?_
     refine p_ 9 4 HT_ ?_
     refine p_ 10 5 HT_ ?_
     refine done_ (done_of HT_.out (by kernel_rfl)) ?_
     try go_wp2
     go_ret2
     exact ⟨by first | rfl | (simp [errW_none, errW_some] <;> rfl) | (simp [*, errW_none, errW_some] <;> rfl), lb1 HB GE471⟩
    ·rw [if_neg c9] at H
     exact absurd H (by simp)
   ·rw [if_neg c8] at H
    exact absurd H (by simp)
  ·replace c6 := Bool.eq_false_iff.mpr c6
   subst c6
   have H1 : (some (0, 1)) = some (r1, r2) := by rw [if_neg (show ¬ (false = true) by decide)] at H; exact H
   clear H
   have H := H1
   clear H1
   simp only [Option.some.injEq, Prod.mk.injEq] at H
   obtain ⟨rfl, rfl⟩ := H
   go_enter Tryd.func33, Tryd.ntmps33
   go_wp2_with (first | ((with_reducible refine gate_dst (N := 2) rfl ?_); refine box_event ?hg (N := 2) ?hd (cs := #[.slice A0_0 l0_0.length c0_0]) (t := 24) ?hr ?_; (case hd => rfl); (case hg => rfl); (case hr => first | (go_simp; done) | (go_simp; rfl)); intro gb471 hg w15 hbox hb; have n0_ := ls0 HB hb; have n1_ := Aside0.mk (hbox); have n2_ := Aside0.mk ((by rw [hg]; exact (below_size (lb0 HB)) : w.heap.size ≤ gb471)); have n3_ := Aside0.mk ((by rw [hg]; exact (below_size (lb0 HB)) : w.heap.size ≤ gb471)); clear HB; have HB := n0_; have BK471 := n1_; have GW471 := n2_; have GE471 := n3_; clear n0_ n1_ n2_ n3_; clear hb hbox hg; have hcz16_0 := bc BK471 0; have hfz16_0 := blk_frozen BK471.out 0) | ((with_reducible refine gate_callee (f := 12) rfl ?_); refine goesL_ (some 8) rfl rfl Tryd.func12 (by kernel_rfl) rfl #[.agg #[.slice A0_0 l0_0.length c0_0]] rfl (by (try simp only [List.map_toArray, List.map_cons, List.map_nil]); first | done | rfl | (simp only [List.length_drop, List.length_take]; rfl)) ?_; (with_reducible refine (tariff_Check.calls k _ _ l0_0 t472 _ ?side1 ?side2 A3.out).mono ?_); (case side1 => repeat (first | exact (Kd.C_below HR0_0.out HB.out) | (with_reducible refine Kd.C_alloc ?_ _) | (with_reducible refine Kd.C_drewN ?_ _) | (with_reducible refine Kd.C_drew ?_))); (case side2 => exact HC0_0.out); rintro e w17 ⟨rfl, hb⟩; refine ⟨_, rfl, ?_⟩; have n0_ := kl BK471 hb; have n1_ := ls1 HB GE471 hb; clear BK471; clear HB; have BK471 := n0_; have HB := n1_; clear n0_ n1_; (try clear hb); (try clear hb2); (try clear hk); (try clear hi)) | ((with_reducible refine gate_callee (f := 34) rfl ?_); refine goesL_ (some 13) rfl rfl Tryd.func34 (by kernel_rfl) rfl #[.int .i64 a1, .int .i64 0, .int .i64 1099511627776] rfl (by (try simp only [List.map_toArray, List.map_cons, List.map_nil]); first | done | rfl | (simp only [List.length_drop, List.length_take]; rfl)) ?_; (with_reducible refine (tariff_within.calls a1 0 1099511627776 false _ A5.out).mono ?_); rintro e w' ⟨rfl, ⟨nd, rfl⟩⟩; refine ⟨_, rfl, ?_⟩))
   go_ret2
   exact ⟨by first | rfl | (simp [errW_none, errW_some] <;> rfl) | (simp [*, errW_none, errW_some] <;> rfl), lb1 HB GE471⟩
 ·rw [if_neg c4] at H
  have c4b0 : (t472 == 0) = false := beq_eq_false_iff_ne.mpr c4
  have c4b1 : (t472 != 0) = true := bne_iff_ne.mpr c4
  simp only [Option.some.injEq, Prod.mk.injEq] at H
  obtain ⟨rfl, rfl⟩ := H
  go_enter Tryd.func33, Tryd.ntmps33
  go_wp2_with (first | ((with_reducible refine gate_dst (N := 2) rfl ?_); refine box_event ?hg (N := 2) ?hd (cs := #[.slice A0_0 l0_0.length c0_0]) (t := 24) ?hr ?_; (case hd => rfl); (case hg => rfl); (case hr => first | (go_simp; done) | (go_simp; rfl)); intro gb471 hg w18 hbox hb; have n0_ := ls0 HB hb; have n1_ := Aside0.mk (hbox); have n2_ := Aside0.mk ((by rw [hg]; exact (below_size (lb0 HB)) : w.heap.size ≤ gb471)); have n3_ := Aside0.mk ((by rw [hg]; exact (below_size (lb0 HB)) : w.heap.size ≤ gb471)); clear HB; have HB := n0_; have BK471 := n1_; have GW471 := n2_; have GE471 := n3_; clear n0_ n1_ n2_ n3_; clear hb hbox hg; have hcz19_0 := bc BK471 0; have hfz19_0 := blk_frozen BK471.out 0) | ((with_reducible refine gate_callee (f := 12) rfl ?_); refine goesL_ (some 8) rfl rfl Tryd.func12 (by kernel_rfl) rfl #[.agg #[.slice A0_0 l0_0.length c0_0]] rfl (by (try simp only [List.map_toArray, List.map_cons, List.map_nil]); first | done | rfl | (simp only [List.length_drop, List.length_take]; rfl)) ?_; (with_reducible refine (tariff_Check.calls k _ _ l0_0 t472 _ ?side1 ?side2 A3.out).mono ?_); (case side1 => repeat (first | exact (Kd.C_below HR0_0.out HB.out) | (with_reducible refine Kd.C_alloc ?_ _) | (with_reducible refine Kd.C_drewN ?_ _) | (with_reducible refine Kd.C_drew ?_))); (case side2 => exact HC0_0.out); rintro e w20 ⟨rfl, hb⟩; refine ⟨_, rfl, ?_⟩; have n0_ := kl BK471 hb; have n1_ := ls1 HB GE471 hb; clear BK471; clear HB; have BK471 := n0_; have HB := n1_; clear n0_ n1_; (try clear hb); (try clear hb2); (try clear hk); (try clear hi)))
  go_ret2
  exact ⟨by first | rfl | (simp [errW_none, errW_some] <;> rfl) | (simp [*, errW_none, errW_some] <;> rfl), lb1 HB GE471⟩

end Go.Proofs.YtldpacphackdjaaDoor.Print
