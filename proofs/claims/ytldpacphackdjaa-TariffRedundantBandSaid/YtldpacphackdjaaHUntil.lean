/- That tariff.until answers the price of the seconds from 0 to a time, for every valid tariff and every time from 0 to 2^40. -/
import Derived.Test.YtldpacphackdjaaPTariff
namespace Go.Proofs.Ytldpacphackdjaa.Print
open Go.RowKit Go.Proofs.YtldpacphackdjaaW.PrintWords Go.Proofs.YtldpacphackdjaaW.PrintLast Go.Proofs.YtldpacphackdjaaW.PrintMore
set_option linter.unusedVariables false
set_option linter.unusedSimpArgs false

set_option maxHeartbeats 4000000 in
set_option maxRecDepth 100000 in
theorem until1_calls (A0 : Option Addr) (c0 : Nat) (l : List S42) (n0 : Int) (gb : Nat) (w : World) (hr : Kd.C k42 w A0 l.length l) (hlen : l.length ≤ 24) (h0 : 0 ≤ n0) (h1 : n0 ≤ 86400)
    (hb : ∀ j : Nat, j < l.length → 0 ≤ (rd_T42 l j).f0 ∧ (rd_T42 l j).f0 ≤ 86399 ∧ 0 ≤ (rd_T42 l j).f1 ∧ (rd_T42 l j).f1 ≤ 1000000)
    (hbox : w.cell? ⟨gb, 0, none⟩ = some (.slice A0 l.length c0)) :
    Calls Try.prog 69 #[.int .i64 n0, .pointer (some ⟨gb, 0, none⟩)] w fun e w' => e = .returned (.int .i64 (first l n0)) ∧ Below w.heap.size w w' := by
  have hu := Try.underlying42
  have hu2 := Try.underlying24
  have HR := Aside0.mk hr
  have HB := Aside0.mk hb
  have BX := Aside0.mk hbox
  have B0 := Aside0.mk (Below.refl w.heap.size w)
  have S0 := Aside0.mk (show (0 : Int) + firstR (l.take l.length).reverse n0 = first l n0 by simp [first])
  clear hr hb
  go_enter Try.func69, Try.ntmps69
  go_wp2
  clear hbox
  go_loopg [0, 3, 4] l.length (fun kx s0 s3 s4 wr => ∃ (n sum : Int) (k : Nat), s0 = .int .i64 n ∧ s3 = .int .i64 sum ∧ s4 = .int .i64 ((k : Int) - 1) ∧ k ≤ kx ∧ k ≤ l.length ∧ 0 ≤ n ∧ n ≤ 86400 ∧ 0 ≤ sum ∧ sum ≤ (86400 - n) * 1000000 ∧ Aside0 (sum + firstR (l.take k).reverse n = first l n0) ∧ Aside0 (Below w.heap.size w wr))
  case atStart => exact ⟨n0, 0, l.length, rfl, rfl, rfl, Nat.le_refl _, Nat.le_refl _, h0, h1, Int.le_refl _, by omega, S0, B0⟩
  case round =>
    clear B0 S0
    obtain ⟨n, sum, k, rfl, rfl, rfl, hkx, hkl, hn0, hn1, hs0, hs1, HS, B1⟩ := hrel
    have hbox := (B1.out.cell (World.block_lt_of_cell? w _ BX.out)).trans BX.out
    cases k with
    | zero =>
      go_wp2
      go_ret
      exact ⟨by have := HS.out; simp only [List.take_zero, List.reverse_nil, firstR_nil, Int.add_zero] at this; rw [this]; rfl, B1.out⟩
    | succ k =>
      obtain ⟨g0, g1, g2, g3⟩ := HB.out k (by omega)
      obtain ⟨ad, e1, c1, c2⟩ := at_T42 HR.out (k : Int) (by omega) (by omega)
      cases e1
      replace c1 := (B1.out.cell (World.block_lt_of_cell? w _ c1)).trans c1
      replace c2 := (B1.out.cell (World.block_lt_of_cell? w _ c2)).trans c2
      rw [Int.toNat_natCast] at c1 c2
      have hs := HS.out
      rw [take_last l k (by omega)] at hs
      obtain ⟨x, hx⟩ : ∃ x, rd_T42 l (k : Int) = x := ⟨_, rfl⟩
      rw [hx] at c1 c2 g0 g1 g2 g3 hs
      obtain ⟨x0, x1⟩ := x
      simp only at c1 c2 g0 g1 g2 g3
      clear hx HS
      have hk : (((k + 1 : Nat) : Int) - 1) = (k : Int) := by omega
      rw [hk]
      clear hk
      by_cases hlt : x0 < n
      · rw [firstR_yes _ hlt] at hs
        simp only at hs
        have HS := Aside0.mk hs
        clear hs
        obtain ⟨m0, m1⟩ := mul_bd (n - x0) x1 (by omega) g2 g3
        go_wp2
        go_roundg k
        case measure => omega
        case rel =>
          refine ⟨x0, sum + (n - x0) * x1, k, rfl, rfl, rfl, Nat.le_refl _, by omega, g0, by omega, by omega, ?_, ⟨by rw [← HS.out]; omega⟩, ⟨?_⟩⟩
          · have : (n - x0) * 1000000 + (86400 - n) * 1000000 = (86400 - x0) * 1000000 := by omega
            omega
          · repeat (first | exact B1.out | apply below_alloc | apply below_drew)
      · rw [firstR_no _ hlt] at hs
        have HS := Aside0.mk hs
        clear hs
        go_wp2
        go_roundg k
        case measure => omega
        case rel => exact ⟨n, sum, k, rfl, rfl, rfl, Nat.le_refl _, by omega, hn0, hn1, hs0, hs1, HS, ⟨by repeat (first | exact B1.out | apply below_alloc | apply below_drew)⟩⟩

set_option maxHeartbeats 4000000 in
set_option maxRecDepth 100000 in
theorem tariff_until.calls (A0_0 : Option Addr) (c0_0 : Nat) (l0_0 : List S42) (a1 : Int) (r : Int) (w : World) (hr0_0 : Kd.C k42 w A0_0 l0_0.length l0_0) (hc0_0 : l0_0.length ≤ c0_0) (h : tariff_until.f l0_0 a1 = some r) :
    Calls Try.prog 53 #[.agg #[.slice A0_0 l0_0.length c0_0], .int .i64 a1] w fun e w' => e = .returned (.int .i64 r) ∧ Below w.heap.size w w' := by
  have hu := Try.underlying24
  unfold tariff_until.f at h
  by_cases hg : good l0_0 = true ∧ 0 ≤ a1 ∧ a1 ≤ 1099511627776
  · rw [if_pos hg] at h
    obtain rfl := Option.some.inj h
    obtain ⟨hg, h2, h3⟩ := hg
    obtain ⟨d0, d1⟩ := first_bd hg 86400 (by omega)
    obtain ⟨e0, e1⟩ := first_bd hg (a1 % 86400) (by omega)
    have hc := fun (n : Int) (h0 : 0 ≤ n) (h1 : n ≤ 86400) (W : World) (hW : Below w.heap.size w W) (hx : W.cell? ⟨w.heap.size, 0, none⟩ = some (.slice A0_0 l0_0.length c0_0)) => until1_calls A0_0 c0_0 l0_0 n w.heap.size W (Kd.C_below hr0_0 hW) (good_len hg).2 h0 h1 (fun j hj => by have := good_at hg j hj; omega) hx
    have HC := Aside0.mk hc
    clear hc h
    have hq : a1 / 86400 ≤ 12725829 := by omega
    have hq0 : 0 ≤ a1 / 86400 := by omega
    have T := Aside0.mk (show totalP l0_0 a1 = a1 / 86400 * first l0_0 86400 + first l0_0 (a1 % 86400) from rfl)
    obtain ⟨p0, p1⟩ : 0 ≤ a1 / 86400 * first l0_0 86400 ∧ a1 / 86400 * first l0_0 86400 ≤ 1099511625600000000 := ⟨Int.mul_nonneg hq0 d0, Int.le_trans (Int.mul_le_mul hq d1 d0 (by omega)) (by omega)⟩
    generalize totalP l0_0 a1 = tt at T ⊢
    go_enter Try.func53, Try.ntmps53
    have hn0 : (w.alloc (.cells #[.slice A0_0 l0_0.length c0_0] 24)).cell? ⟨w.heap.size, 0, none⟩ = some (.slice A0_0 l0_0.length c0_0) := by
      rw [World.cell?_alloc_at _ _ _ _ (by simp)]; rfl
    have N0 := Aside0.mk hn0
    clear hn0
    go_wp2_with fail
    refine (HC.out 86400 (by omega) (by omega) _ (below_alloc (Below.refl _ _) _) N0.out).mono ?_
    rintro e w1 ⟨rfl, hb1⟩
    have hW1 := Aside0.mk (below_step (below_alloc (Below.refl _ _) _) hb1)
    have hx1 := Aside0.mk ((hb1.cell (by simp)).trans N0.out)
    clear hb1
    go_wp2_with fail
    refine (HC.out (a1 % 86400) (by omega) (by omega) _ hW1.out hx1.out).mono ?_
    rintro e w2 ⟨rfl, hb2⟩
    have hW2 := Aside0.mk (below_step hW1.out hb2)
    clear hb2
    go_wp2
    go_ret
    exact ⟨by rw [T.out]; rfl, hW2.out⟩
  · rw [if_neg hg] at h
    exact absurd h (by simp)
end Go.Proofs.Ytldpacphackdjaa.Print
