/- That tariff.band answers the index of the band of a second, for every valid tariff and every second of a day. -/
import Derived.Test.YtldpacphackdjaaHGood
namespace Go.Proofs.Ytldpacphackdjaa.Print
open Go.RowKit Go.Proofs.YtldpacphackdjaaW.PrintWords Go.Proofs.YtldpacphackdjaaW.PrintLast Go.Proofs.YtldpacphackdjaaW.PrintMore
set_option linter.unusedVariables false
set_option linter.unusedSimpArgs false

set_option maxHeartbeats 1000000 in
theorem band1_calls (a b s : Int) (w : World) (h0 : 0 ≤ a) (h1 : a ≤ 86399) (h2 : 0 ≤ s) (h3 : s ≤ 86399) :
    Calls Try.prog 68 #[.agg #[.int .i64 a, .int .i64 b], .int .i64 s] w fun e w' => e = .returned (.int .i64 (a - s)) ∧ Below w.heap.size w w' := by
  have hu := Try.underlying42
  go_enter Try.func68, Try.ntmps68
  go_wp2
  go_ret
  exact ⟨rfl, by repeat (first | exact Below.refl _ _ | apply below_alloc | apply below_drew)⟩

set_option maxHeartbeats 4000000 in
set_option maxRecDepth 100000 in
theorem bsearch_band (A0 : Option Addr) (c0 : Nat) (l : List S42) (s : Int) (i : Nat) (w : World) (hr : Kd.C k42 w A0 l.length l) (hi : i ≤ l.length) (hlen : l.length ≤ 24) (h2 : 0 ≤ s) (h3 : s ≤ 86399)
    (hb : ∀ j : Nat, j < l.length → 0 ≤ (rd_T42 l j).f0 ∧ (rd_T42 l j).f0 ≤ 86399 ∧ ((rd_T42 l j).f0 < s ↔ j < i)) :
    Calls Try.prog 67 #[.slice A0 l.length c0, .int .i64 s, .func (.func 68) #[] #[]] w fun e w' => e = .returned (.tuple #[.int .i64 (i : Int), .bool (decide (i < l.length) && decide ((rd_T42 l i).f0 = s))]) ∧ Below w.heap.size w w' := by
  have hu := Try.underlying42
  have HR := Aside0.mk hr
  have HB := Aside0.mk hb
  have B0 := Aside0.mk (Below.refl w.heap.size w)
  clear hr hb
  go_enter Try.func67, Try.ntmps67
  go_wp2
  go_loopg [9, 10] l.length (fun kx s9 s10 wr => ∃ lo hi : Nat, s9 = .int .i64 lo ∧ s10 = .int .i64 hi ∧ lo ≤ hi ∧ hi ≤ l.length ∧ hi - lo ≤ kx ∧ lo ≤ i ∧ i ≤ hi ∧ Aside0 (Below w.heap.size w wr))
  case atStart => exact ⟨0, l.length, rfl, rfl, Nat.zero_le _, Nat.le_refl _, by omega, Nat.zero_le _, hi, B0⟩
  case round =>
    clear B0
    obtain ⟨lo, hi', rfl, rfl, hlh, hin, hg, h4, h5, B1⟩ := hrel
    by_cases hlt : lo < hi'
    · have hql : (lo + hi') / 2 < l.length := by omega
      obtain ⟨g1, g2, g3⟩ := HB.out ((lo + hi') / 2) hql
      obtain ⟨ad, e1, c1, c2⟩ := at_T42 HR.out (((lo + hi') / 2 : Nat) : Int) (by omega) (by omega)
      cases e1
      replace c1 := (B1.out.cell (World.block_lt_of_cell? w _ c1)).trans c1
      replace c2 := (B1.out.cell (World.block_lt_of_cell? w _ c2)).trans c2
      rw [Int.toNat_natCast] at c1 c2
      generalize rd_T42 l (((lo + hi') / 2 : Nat) : Int) = x at c1 c2 g1 g2 g3
      obtain ⟨x0, x1⟩ := x
      simp only at c1 c2 g1 g2 g3
      have G3 := Aside0.mk g3
      clear g3
      have HC := Aside0.mk (fun W => band1_calls x0 x1 s W g1 g2 h2 h3)
      by_cases hx : x0 < s
      · go_wp2_with (go_at_call 68; refine (HC.out _).mono ?_; rintro e w' ⟨rfl, hb⟩)
        have B2 := Aside0.mk (below_step B1.out hb)
        clear hb
        go_roundg (hi' - ((lo + hi') / 2 + 1))
        case measure => omega
        case rel => exact ⟨(lo + hi') / 2 + 1, hi', by rw [show ((lo : Int) + (hi' : Int)) / 2 + 1 = (((lo + hi') / 2 + 1 : Nat) : Int) by omega], rfl, by omega, hin, Nat.le_refl _, by have := G3.out.1 hx; omega, h5, B2⟩
      · have hx' : s ≤ x0 := by omega
        go_wp2_with (go_at_call 68; refine (HC.out _).mono ?_; rintro e w' ⟨rfl, hb⟩)
        have B2 := Aside0.mk (below_step B1.out hb)
        clear hb
        go_roundg ((lo + hi') / 2 - lo)
        case measure => omega
        case rel => exact ⟨lo, (lo + hi') / 2, rfl, by rw [show ((lo : Int) + (hi' : Int)) / 2 = (((lo + hi') / 2 : Nat) : Int) by omega], by omega, by omega, Nat.le_refl _, h4, Nat.le_of_not_lt (fun h => absurd (G3.out.2 h) (by omega)), B2⟩
    · obtain rfl : hi' = lo := by omega
      obtain rfl : hi' = i := by omega
      by_cases hn : hi' < l.length
      · obtain ⟨g1, g2, g3⟩ := HB.out hi' hn
        obtain ⟨ad, e1, c1, c2⟩ := at_T42 HR.out (hi' : Int) (by omega) (by omega)
        cases e1
        replace c1 := (B1.out.cell (World.block_lt_of_cell? w _ c1)).trans c1
        replace c2 := (B1.out.cell (World.block_lt_of_cell? w _ c2)).trans c2
        rw [Int.toNat_natCast] at c1 c2
        obtain ⟨x, hx⟩ : ∃ x, rd_T42 l (hi' : Int) = x := ⟨_, rfl⟩
        rw [hx] at c1 c2 g1 g2
        obtain ⟨x0, x1⟩ := x
        simp only at c1 c2 g1 g2
        have X := Aside0.mk hx
        clear g3 hx
        have HC := Aside0.mk (fun W => band1_calls x0 x1 s W g1 g2 h2 h3)
        go_wp2_with (go_at_call 68; refine (HC.out _).mono ?_; rintro e w' ⟨rfl, hb⟩)
        have B2 := below_step B1.out hb
        go_ret2
        refine ⟨?_, B2⟩
        rw [X.out]
        by_cases h : x0 = s
        · simp [hn, h]
        · simp [hn, h]
          omega
      · go_wp2
        go_ret2
        exact ⟨by simp [hn], B1.out⟩

set_option maxHeartbeats 4000000 in
set_option maxRecDepth 100000 in
theorem tariff_band.calls (A0_0 : Option Addr) (c0_0 : Nat) (l0_0 : List S42) (a1 : Int) (r : Int) (w : World) (hr0_0 : Kd.C k42 w A0_0 l0_0.length l0_0) (hc0_0 : l0_0.length ≤ c0_0) (h : tariff_band.f l0_0 a1 = some r) :
    Calls Try.prog 50 #[.agg #[.slice A0_0 l0_0.length c0_0], .int .i64 a1] w fun e w' => e = .returned (.int .i64 r) ∧ Below w.heap.size w w' := by
  have hu := Try.underlying24
  unfold tariff_band.f at h
  by_cases hg : good l0_0 = true ∧ 0 ≤ a1 ∧ a1 ≤ 86399
  · rw [if_pos hg] at h
    obtain rfl := Option.some.inj h
    obtain ⟨hg, h2, h3⟩ := hg
    obtain ⟨i, hi⟩ : ∃ i, i = upTo (a1 - 1) l0_0 := ⟨_, rfl⟩
    have hil : i ≤ l0_0.length := by rw [hi]; exact upTo_le _ _
    have hbs := fun W (hW : Below w.heap.size w W) => bsearch_band A0_0 c0_0 l0_0 a1 i W (Kd.C_below hr0_0 hW) hil (good_len hg).2 h2 h3 (fun j hj => ⟨by have := (good_at hg j hj); omega, (good_at hg j hj).2.1, by have := good_upTo hg (a1 - 1) j hj; rw [← hi] at this; omega⟩)
    have HS := Aside0.mk hbs
    have hp := good_upTo_pos hg a1 h2
    have hq := upTo_le a1 l0_0
    have hres : (i < l0_0.length ∧ (rd_T42 l0_0 i).f0 = a1 ∧ upTo a1 l0_0 = i + 1) ∨ (¬ (i < l0_0.length ∧ (rd_T42 l0_0 i).f0 = a1) ∧ upTo a1 l0_0 = i) := by
      have key : ∀ j, j < l0_0.length → (j < upTo a1 l0_0 ↔ (j < i ∨ (rd_T42 l0_0 j).f0 = a1)) := fun j hj => by
        have e1 := good_upTo hg a1 j hj
        have e2 := good_upTo hg (a1 - 1) j hj
        rw [← hi] at e2
        omega
      by_cases hb : i < l0_0.length ∧ (rd_T42 l0_0 i).f0 = a1
      · refine .inl ⟨hb.1, hb.2, ?_⟩
        have k1 := (key i hb.1).2 (.inr hb.2)
        by_cases hn : i + 1 < l0_0.length
        · have k2 := key (i + 1) hn
          have e2 := goodStep hg i hn
          omega
        · omega
      · refine .inr ⟨hb, ?_⟩
        have k3 : i ≤ upTo a1 l0_0 := by
          by_cases h0 : i = 0
          · omega
          · have := (key (i - 1) (by omega)).2 (.inl (by omega)); omega
        by_cases hn : i < l0_0.length
        · have k2 := key i hn
          have : ¬ (rd_T42 l0_0 i).f0 = a1 := fun h => hb ⟨hn, h⟩
          omega
        · omega
    clear hbs hi
    have HP := Aside0.mk hp
    have HQ := Aside0.mk hq
    clear hp hq hr0_0 h
    rcases hres with ⟨r1, r2, r3⟩ | ⟨r1, r3⟩
    · have r4 : (decide (i < l0_0.length) && decide ((rd_T42 l0_0 i).f0 = a1)) = true := by simp [r1, r2]
      rw [r3]
      simp only [r4] at HS
      clear r1 r2 r3 r4
      go_enter Try.func50, Try.ntmps50
      go_wp2_with (go_at_call 67; refine (HS.out _ (below_alloc (Below.refl _ _) _)).mono ?_; rintro e w' ⟨rfl, hb⟩)
      go_ret
      exact ⟨by simp, below_step (below_alloc (Below.refl _ _) _) hb⟩
    · have r4 : (decide (i < l0_0.length) && decide ((rd_T42 l0_0 i).f0 = a1)) = false := by
        rw [Bool.eq_false_iff]
        intro h
        simp only [Bool.and_eq_true, decide_eq_true_eq] at h
        exact r1 h
      have p1 : 1 ≤ i := by rw [← r3]; exact HP.out
      have p2 : i ≤ 24 := by have := (good_len hg).2; omega
      rw [r3]
      simp only [r4] at HS
      clear r1 r3 r4
      go_enter Try.func50, Try.ntmps50
      go_wp2_with (go_at_call 67; refine (HS.out _ (below_alloc (Below.refl _ _) _)).mono ?_; rintro e w' ⟨rfl, hb⟩)
      go_ret
      exact ⟨rfl, below_step (below_alloc (Below.refl _ _) _) hb⟩
  · rw [if_neg hg] at h
    exact absurd h (by simp)
end Go.Proofs.Ytldpacphackdjaa.Print
