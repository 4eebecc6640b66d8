/- That tariff.Afford answers the number of affordable seconds, or the error that comes first, for every tariff and all numbers. -/
import Derived.Test.YtldpacphackdjaaPTariff
import Derived.Test.YtldpacphackdjaaHUntil
import Derived.Test.YtldpacphackdjaaFT
import Derived.Test.YtldpacphackdjaaF56
namespace Go.Proofs.Ytldpacphackdjaa.Print
open Go.RowKit Go.Proofs.YtldpacphackdjaaW.PrintWords Go.Proofs.YtldpacphackdjaaW.PrintLast Go.Proofs.YtldpacphackdjaaW.PrintMore
set_option linter.unusedVariables false
set_option linter.unusedSimpArgs false

/-- sort.Search over a method value of a purse: the first place at which the purse is short. -/
theorem short_at {l : List S42} (hg : good l = true) (a u : Int) (ha : 0 ≤ a) (hu : 0 ≤ u) (m : Nat) (hm : a + m ≤ 1099511627776) (j : Nat) (hj : j < m) : tariff_purse_short.f l a u (j : Int) = some (decide (affN l a u m ≤ j)) := by
  unfold tariff_purse_short.f tariff_until.f
  have e1 : wrap64 (a + (j : Int)) = a + j := by unfold wrap64; omega
  have e2 : wrap64 (a + (j : Int) + 1) = a + j + 1 := by unfold wrap64; omega
  rw [e1, e2, if_pos ⟨hg, by omega, by omega⟩, Option.bind_some, if_pos ⟨hg, by omega, by omega⟩, Option.bind_some]
  have b1 := totalP_bd hg (a + j + 1) (by omega)
  have b2 := totalP_bd hg a (by omega)
  have e3 : wrap64 (totalP l (a + j + 1) - totalP l a) = totalP l (a + j + 1) - totalP l a := by unfold wrap64; omega
  rw [e3]
  exact congrArg some (decide_eq_decide.2 (by rw [gt_iff_lt]; exact affN_iff hg a u ha hu m j hj))

set_option maxHeartbeats 4000000 in
set_option maxRecDepth 100000 in
theorem search_calls (A0 : Option Addr) (c0 : Nat) (l : List S42) (a u : Int) (m : Nat) (w : World) (hr : Kd.C k42 w A0 l.length l) (hc : l.length ≤ c0) (hg : good l = true) (ha : 0 ≤ a) (hu : 0 ≤ u) (hm : a + m ≤ 1099511627776) :
    Calls Try.prog 55 #[.int .i64 (m : Int), .func (.func 56) #[.agg #[.slice A0 l.length c0, .int .i64 a, .int .i64 u]] #[]] w fun e w' => e = .returned (.int .i64 (affN l a u m : Int)) ∧ Below w.heap.size w w' := by
  have HC := Aside0.mk (fun (j : Nat) (hj : j < m) (W : World) (hW : Below w.heap.size w W) => tariff_purse_short.calls A0 c0 l a u (j : Int) _ W (Kd.C_below hr hW) hc (short_at hg a u ha hu m hm j hj))
  have B0 := Aside0.mk (Below.refl w.heap.size w)
  have hN := affN_le l a u m
  have hm2 : m ≤ 1099511627776 := by omega
  generalize affN l a u m = i at HC hN ⊢
  clear hr hc hg hm
  go_enter Try.func55, Try.ntmps55
  go_wp2
  go_loopg [5, 6] m (fun kx s5 s6 wr => ∃ lo hi : Nat, s5 = .int .i64 lo ∧ s6 = .int .i64 hi ∧ lo ≤ hi ∧ hi ≤ m ∧ hi - lo ≤ kx ∧ lo ≤ i ∧ i ≤ hi ∧ Aside0 (Below w.heap.size w wr))
  case atStart => exact ⟨0, m, rfl, rfl, Nat.zero_le _, Nat.le_refl _, by omega, Nat.zero_le _, hN, B0⟩
  case round =>
    clear B0
    obtain ⟨lo, hi, rfl, rfl, hlh, hin, hk, h4, h5, B1⟩ := hrel
    by_cases hlt : lo < hi
    · have hj : (lo + hi) / 2 < m := by omega
      have hq := HC.out ((lo + hi) / 2) hj wr B1.out
      rw [show (((lo + hi) / 2 : Nat) : Int) = ((lo : Int) + (hi : Int)) / 2 by omega] at hq
      by_cases hx : i ≤ (lo + hi) / 2
      · rw [decide_eq_true hx] at hq
        have HQ := Aside0.mk hq
        clear hq
        go_wp2_with (go_at_call 56; (with_reducible refine HQ.out.mono ?_); rintro e w' ⟨rfl, hb⟩)
        have B2 := Aside0.mk (below_step B1.out hb)
        go_roundg ((lo + hi) / 2 - lo)
        case measure => omega
        case rel => exact ⟨lo, (lo + hi) / 2, rfl, by rw [show ((lo : Int) + (hi : Int)) / 2 = (((lo + hi) / 2 : Nat) : Int) by omega], by omega, by omega, Nat.le_refl _, h4, hx, B2⟩
      · rw [decide_eq_false hx] at hq
        have HQ := Aside0.mk hq
        clear hq
        go_wp2_with (go_at_call 56; (with_reducible refine HQ.out.mono ?_); rintro e w' ⟨rfl, hb⟩)
        have B2 := Aside0.mk (below_step B1.out hb)
        go_roundg (hi - ((lo + hi) / 2 + 1))
        case measure => omega
        case rel => exact ⟨(lo + hi) / 2 + 1, hi, by rw [show ((lo : Int) + (hi : Int)) / 2 + 1 = (((lo + hi) / 2 + 1 : Nat) : Int) by omega], rfl, by omega, hin, Nat.le_refl _, by omega, h5, B2⟩
    · obtain rfl : hi = lo := by omega
      obtain rfl : hi = i := by omega
      go_wp2
      go_ret
      exact ⟨rfl, B1.out⟩

/-- What tariff.Check answers. -/
theorem check_l0 : ∀ (d : Nat) (l : List S42) (k j : Nat) (least : Int), l.length - j = d → d < k → l.length ≤ 24 → 0 ≤ least → least ≤ 86400 →
    tariff_Check.l0 k least l (l.length : Int) (j : Int) = some (if (j = 0 → l = [] ∨ (rd_T42 l 0).f0 = 0) ∧ goodFrom least (l.drop j) = true then 0 else 260) := by
  intro d
  induction d with
  | zero =>
    intro l k j least hd hk hl h0 h1
    obtain ⟨k, rfl⟩ : ∃ m, k = m + 1 := ⟨k - 1, by omega⟩
    simp only [tariff_Check.l0]
    rw [if_neg (by omega), List.drop_eq_nil_of_le (by omega)]
    rw [if_pos ⟨fun hj => .inl (by subst hj; exact List.eq_nil_of_length_eq_zero (by omega)), rfl⟩]
  | succ d ih =>
    intro l k j least hd hk hl h0 h1
    obtain ⟨k, rfl⟩ : ∃ m, k = m + 1 := ⟨k - 1, by omega⟩
    have hj : j < l.length := by omega
    have er : rd_T42 l (j : Int) = l[j] := by simp [rd_T42, List.getD_eq_getElem?_getD, List.getElem?_eq_getElem hj]
    simp only [tariff_Check.l0]
    rw [if_pos (by omega), if_pos (by omega), if_pos (by omega), List.drop_eq_getElem_cons hj, er]
    have hw : ∀ a b c : Int, tariff_within.f a b c = some (decide (b ≤ a ∧ a ≤ c)) := fun a b c => by
      unfold tariff_within.f
      by_cases h : b ≤ a
      · rw [if_pos h]; simp [h]
      · rw [if_neg h]; simp [h]
    have er0 : j = 0 → rd_T42 l 0 = l[j] := fun h => by subst h; exact er
    have hne : l ≠ [] := by intro h; subst h; simp at hj
    have hrest : ((tariff_within.f l[j].f0 least 86399).bind fun t => if t = true then ((tariff_within.f l[j].f1 0 1000000).bind fun t2 => if t2 = true then tariff_Check.l0 k (wrap64 (l[j].f0 + 1)) l (l.length : Int) (wrap64 ((j : Int) + 1)) else some 260) else some 260) = some (if goodFrom least (l[j] :: l.drop (j + 1)) = true then 0 else 260) := by
      rw [hw, Option.bind_some]
      by_cases c1 : least ≤ l[j].f0 ∧ l[j].f0 ≤ 86399
      · rw [decide_eq_true c1, if_pos rfl, hw, Option.bind_some]
        by_cases c2 : 0 ≤ l[j].f1 ∧ l[j].f1 ≤ 1000000
        · rw [decide_eq_true c2, if_pos rfl]
          have e1 : wrap64 (l[j].f0 + 1) = l[j].f0 + 1 := by unfold wrap64; omega
          have e2 : wrap64 ((j : Int) + 1) = ((j + 1 : Nat) : Int) := by unfold wrap64; omega
          rw [e1, e2, ih l k (j + 1) (l[j].f0 + 1) (by omega) (by omega) hl (by omega) (by omega)]
          simp [goodFrom, c1, c2]
        · rw [decide_eq_false c2, if_neg (by simp), if_neg]
          simp only [goodFrom, Bool.and_eq_true, decide_eq_true_eq]
          rintro ⟨⟨_, _, a, b⟩, _⟩
          exact c2 ⟨a, b⟩
      · rw [decide_eq_false c1, if_neg (by simp), if_neg]
        simp only [goodFrom, Bool.and_eq_true, decide_eq_true_eq]
        rintro ⟨⟨a, b, _⟩, _⟩
        exact c1 ⟨a, b⟩
    by_cases hz : (j : Int) = 0
    · rw [if_pos hz]
      have hz' : j = 0 := by omega
      by_cases hs : l[j].f0 = 0
      · rw [if_pos hs, hrest]
        congr 1
        by_cases hgf : goodFrom least (l[j] :: l.drop (j + 1)) = true
        · rw [if_pos hgf, if_pos ⟨fun _ => .inr (by rw [er0 hz']; exact hs), hgf⟩]
        · rw [if_neg hgf, if_neg (fun h => hgf h.2)]
      · rw [if_neg hs, if_neg]
        rintro ⟨h, _⟩
        rcases h hz' with h | h
        · exact hne h
        · rw [er0 hz'] at h; exact hs h
    · rw [if_neg hz, hrest]
      congr 1
      by_cases hgf : goodFrom least (l[j] :: l.drop (j + 1)) = true
      · rw [if_pos hgf, if_pos ⟨fun h => absurd h (by omega), hgf⟩]
      · rw [if_neg hgf, if_neg (fun h => hgf h.2)]
theorem check_is (l : List S42) (k : Nat) (hk : 25 ≤ k) : tariff_Check.f k l = some (if good l = true then 0 else 260) := by
  unfold tariff_Check.f tariff_within.f
  by_cases h1 : (1 : Int) ≤ (l.length : Int)
  · rw [if_pos h1, Option.bind_some]
    by_cases h2 : (l.length : Int) ≤ 24
    · rw [decide_eq_true h2, if_pos rfl]
      have := check_l0 l.length l k 0 0 (by omega) (by omega) (by omega) (by omega) (by omega)
      rw [show ((0 : Nat) : Int) = 0 from rfl] at this
      rw [this]
      congr 1
      cases l with
      | nil => simp at h1
      | cons b t =>
        by_cases hg : good (b :: t) = true
        · rw [if_pos hg]
          simp only [good, Bool.and_eq_true, decide_eq_true_eq] at hg
          rw [if_pos ⟨fun _ => .inr (by simpa [rd_T42] using hg.1), by simpa using hg.2.1⟩]
        · rw [if_neg hg, if_neg]
          rintro ⟨h3, h4⟩
          refine hg ?_
          simp only [good, Bool.and_eq_true, decide_eq_true_eq]
          rcases h3 rfl with h3 | h3
          · simp at h3
          · exact ⟨by simpa [rd_T42] using h3, by simpa using h4, by omega⟩
    · rw [decide_eq_false h2, if_neg (by simp), if_neg]
      intro hg
      have := good_len hg
      omega
  · rw [if_neg h1, Option.bind_some, if_neg (by simp), if_neg]
    intro hg
    have := good_len hg
    omega

theorem within_is (a b c : Int) : tariff_within.f a b c = some (decide (b ≤ a ∧ a ≤ c)) := by
  unfold tariff_within.f
  by_cases h : b ≤ a
  · rw [if_pos h]; simp [h]
  · rw [if_neg h]; simp [h]
theorem within_yes (a b c : Int) (h : b ≤ a ∧ a ≤ c) (w : World) : Calls Try.prog 49 #[.int .i64 a, .int .i64 b, .int .i64 c] w fun e w' => e = .returned (.bool true) ∧ Drawn0 w w' :=
  tariff_within.calls a b c true w (by rw [within_is, decide_eq_true h])
theorem within_no (a b c : Int) (h : ¬ (b ≤ a ∧ a ≤ c)) (w : World) : Calls Try.prog 49 #[.int .i64 a, .int .i64 b, .int .i64 c] w fun e w' => e = .returned (.bool false) ∧ Drawn0 w w' :=
  tariff_within.calls a b c false w (by rw [within_is, decide_eq_false h])

set_option maxHeartbeats 4000000 in
set_option maxRecDepth 100000 in
theorem tariff_Afford.calls (A0_0 : Option Addr) (c0_0 : Nat) (l0_0 : List S42) (a1 : Int) (a2 : Int) (a3 : Int) (r1 : Int) (r2 : Int) (w : World) (hr0_0 : Kd.C k42 w A0_0 l0_0.length l0_0) (hc0_0 : l0_0.length ≤ c0_0) (h : tariff_Afford.f l0_0 a1 a2 a3 = some (r1, r2)) :
    Calls Try.prog 30 #[.agg #[.slice A0_0 l0_0.length c0_0], .int .i64 a1, .int .i64 a2, .int .i64 a3] w fun e w' => e = .returned (.tuple #[.int .i64 r1, .int .i64 r2]) ∧ Below w.heap.size w w' := by
  have hu := Try.underlying24
  unfold tariff_Afford.f at h
  have HR := Aside0.mk hr0_0
  have HC := Aside0.mk (fun W (hW : Below w.heap.size w W) => tariff_Check.calls 25 A0_0 c0_0 l0_0 _ W (Kd.C_below hr0_0 hW) hc0_0 (check_is l0_0 25 (by omega)))
  have B0 := Aside0.mk (below_alloc (Below.refl w.heap.size w) (.cells #[.slice A0_0 l0_0.length c0_0] 24))
  have hn0 : (w.alloc (.cells #[.slice A0_0 l0_0.length c0_0] 24)).cell? ⟨w.heap.size, 0, none⟩ = some (.slice A0_0 l0_0.length c0_0) := by
    rw [World.cell?_alloc_at _ _ _ _ (by simp)]; rfl
  have N0 := Aside0.mk hn0
  clear hn0
  by_cases hg : good l0_0 = true
  · rw [if_pos hg] at h HC
    have HG := Aside0.mk hg
    clear hg
    by_cases hf : 0 ≤ a1 ∧ a1 ≤ 1099511627776 ∧ 0 ≤ a2 ∧ 0 ≤ a3 ∧ a3 ≤ 1099511627776 - a1
    · rw [if_pos hf] at h
      simp only [Option.some.injEq, Prod.mk.injEq] at h
      obtain ⟨rfl, rfl⟩ := h
      obtain ⟨f1, f2, f3, f4, f5⟩ := hf
      obtain ⟨m, rfl⟩ := Int.eq_ofNat_of_zero_le f4
      have HS := Aside0.mk (fun W (hW : Below w.heap.size w W) => search_calls A0_0 c0_0 l0_0 a1 a2 m W (Kd.C_below hr0_0 hW) hc0_0 HG.out f1 f3 (by omega))
      rw [Int.toNat_natCast]
      generalize affN l0_0 a1 a2 m = i at HS ⊢
      clear hr0_0 hc0_0
      have f6 : (m : Int) ≤ 1099511627776 - a1 := f5
      go_enter Try.func30, Try.ntmps30
      go_wp2_with fail
      refine (HC.out _ B0.out).mono ?_
      rintro e w1 ⟨rfl, hb1⟩
      have B1 := Aside0.mk (below_step B0.out hb1)
      have hx1 := (hb1.cell (by simp)).trans N0.out
      clear hb1
      go_wp2_with fail
      refine (within_yes a1 0 1099511627776 ⟨f1, f2⟩ _).mono ?_
      rintro e w2 ⟨rfl, ⟨nd, rfl⟩⟩
      go_wp2_with fail
      refine (within_yes (m : Int) 0 (1099511627776 - a1) ⟨f4, f5⟩ _).mono ?_
      rintro e w3 ⟨rfl, ⟨nd3, rfl⟩⟩
      go_wp2_with fail
      refine (HS.out _ (pw_below_drewN B1.out _)).mono ?_
      rintro e w4 ⟨rfl, hb4⟩
      have B4 := Aside0.mk (below_step (pw_below_drewN B1.out _) hb4)
      clear hb4
      go_wp2
      go_ret2
      exact ⟨rfl, B4.out⟩
    · rw [if_neg hf] at h
      simp only [Option.some.injEq, Prod.mk.injEq] at h
      obtain ⟨rfl, rfl⟩ := h
      clear hr0_0 hc0_0
      by_cases f1 : 0 ≤ a1 ∧ a1 ≤ 1099511627776
      · obtain ⟨f1, f2⟩ := f1
        by_cases f3 : 0 ≤ a2
        · have f4 : ¬ (0 ≤ a3 ∧ a3 ≤ 1099511627776 - a1) := fun h => hf ⟨f1, f2, f3, h⟩
          clear hf
          have F4 := Aside0.mk f4
          clear f4
          go_enter Try.func30, Try.ntmps30
          go_wp2_with fail
          refine (HC.out _ B0.out).mono ?_
          rintro e w1 ⟨rfl, hb1⟩
          have B1 := Aside0.mk (below_step B0.out hb1)
          clear hb1
          go_wp2_with fail
          refine (within_yes a1 0 1099511627776 ⟨f1, f2⟩ _).mono ?_
          rintro e w2 ⟨rfl, ⟨nd, rfl⟩⟩
          go_wp2_with fail
          refine (within_no a3 0 (1099511627776 - a1) F4.out _).mono ?_
          rintro e w3 ⟨rfl, ⟨nd3, rfl⟩⟩
          go_wp2
          go_ret2
          exact ⟨rfl, pw_below_drewN B1.out _⟩
        · clear hf
          go_enter Try.func30, Try.ntmps30
          go_wp2_with fail
          refine (HC.out _ B0.out).mono ?_
          rintro e w1 ⟨rfl, hb1⟩
          have B1 := Aside0.mk (below_step B0.out hb1)
          clear hb1
          go_wp2_with fail
          refine (within_yes a1 0 1099511627776 ⟨f1, f2⟩ _).mono ?_
          rintro e w2 ⟨rfl, ⟨nd, rfl⟩⟩
          go_wp2
          go_ret2
          exact ⟨rfl, pw_below_drewN B1.out _⟩
      · clear hf
        have F1 := Aside0.mk f1
        clear f1
        go_enter Try.func30, Try.ntmps30
        go_wp2_with fail
        refine (HC.out _ B0.out).mono ?_
        rintro e w1 ⟨rfl, hb1⟩
        have B1 := Aside0.mk (below_step B0.out hb1)
        clear hb1
        go_wp2_with fail
        refine (within_no a1 0 1099511627776 F1.out _).mono ?_
        rintro e w2 ⟨rfl, ⟨nd, rfl⟩⟩
        go_wp2
        go_ret2
        exact ⟨rfl, pw_below_drewN B1.out _⟩
  · rw [if_neg hg] at h HC
    clear hg
    simp only [Option.some.injEq, Prod.mk.injEq] at h
    obtain ⟨rfl, rfl⟩ := h
    clear hr0_0 hc0_0
    go_enter Try.func30, Try.ntmps30
    go_wp2_with fail
    refine (HC.out _ B0.out).mono ?_
    rintro e w1 ⟨rfl, hb1⟩
    have B1 := Aside0.mk (below_step B0.out hb1)
    clear hb1
    go_wp2
    go_ret2
    exact ⟨rfl, B1.out⟩
end Go.Proofs.Ytldpacphackdjaa.Print
