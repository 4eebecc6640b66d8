/- What the printed Price, Afford and Change of the tariff's reference answer: the same as the program's. Conditions: enough rounds. -/
import Derived.Test.YtldpacphackdjaaPTarRef
namespace Go.Proofs.Ytldpacphackdjaa.Print
open Go.RowKit Go.Proofs.YtldpacphackdjaaW.PrintWords Go.Proofs.YtldpacphackdjaaW.PrintLast Go.Proofs.YtldpacphackdjaaW.PrintMore
set_option linter.unusedVariables false
set_option linter.unusedSimpArgs false

theorem rpartial_l0 {l : List S42} (hg : good l = true) (n : Int) (hn0 : 0 ≤ n) (hn1 : n ≤ 86400) : ∀ (d k j : Nat), l.length - j = d → d < k → j ≤ l.length →
    crossbarref26_partial.l0 k n (firstR (l.take j).reverse (if j < l.length then mn n (rd_T42 l j).f0 else n)) l (l.length : Int) (j : Int) l = some (first l n) := by
  have hl := (good_len hg).2
  intro d
  induction d with
  | zero =>
    intro k j hd hk hj
    obtain ⟨k, rfl⟩ : ∃ m, k = m + 1 := ⟨k - 1, by omega⟩
    simp only [crossbarref26_partial.l0]
    rw [if_neg (by omega), if_neg (by omega), List.take_of_length_le (by omega)]
    rfl
  | succ d ih =>
    intro k j hd hk hj
    obtain ⟨k, rfl⟩ : ∃ m, k = m + 1 := ⟨k - 1, by omega⟩
    have hjl : j < l.length := by omega
    have h3 := ih k (j + 1) (by omega) (by omega) (by omega)
    rw [take_last l j hjl] at h3
    obtain ⟨g0, g1, g2, g3⟩ := good_at hg j hjl
    have hmem : ∀ b ∈ (l.take j).reverse, 0 ≤ b.f0 ∧ 0 ≤ b.f1 ∧ b.f1 ≤ 1000000 := fun b hb => by
      have := good_mem hg b (List.mem_of_mem_take (by simpa using hb)); omega
    simp only [crossbarref26_partial.l0]
    rw [if_pos hjl, if_pos (by omega), if_pos (by omega), if_pos (by omega), show wrap64 ((j : Int) + 1) = ((j + 1 : Nat) : Int) by unfold wrap64; omega]
    -- where the band ends
    by_cases hlast : j + 1 < l.length
    · have hs := goodStep hg j hlast
      have gs := good_at hg (j + 1) hlast
      rw [if_pos (by omega), if_pos (by omega)]
      rw [if_pos hlast] at h3
      by_cases hc : n > (rd_T42 l j).f0
      · rw [if_pos hc]
        have e1 : mn n (rd_T42 l j).f0 = (rd_T42 l j).f0 := by unfold mn; omega
        rw [e1]
        have hlt : (rd_T42 l j).f0 < mn n (rd_T42 l ((j + 1 : Nat) : Int)).f0 := by unfold mn; omega
        have hle : mn n (rd_T42 l ((j + 1 : Nat) : Int)).f0 ≤ 86400 := by unfold mn; omega
        rw [firstR_yes _ hlt] at h3
        obtain ⟨b0, b1⟩ := firstR_bd (l.take j).reverse (rd_T42 l j).f0 hmem (by omega)
        generalize mn n (rd_T42 l ((j + 1 : Nat) : Int)).f0 = m at hlt hle h3 ⊢
        generalize firstR (l.take j).reverse (rd_T42 l j).f0 = F at b0 b1 h3 ⊢
        obtain ⟨p0, p1⟩ := mul_bd (m - (rd_T42 l j).f0) (rd_T42 l j).f1 (by omega) g2 g3
        rw [show wrap64 (m - (rd_T42 l j).f0) = m - (rd_T42 l j).f0 by unfold wrap64; omega]
        rw [show wrap64 ((m - (rd_T42 l j).f0) * (rd_T42 l j).f1) = (m - (rd_T42 l j).f0) * (rd_T42 l j).f1 by unfold wrap64; omega]
        rw [show wrap64 (F + (m - (rd_T42 l j).f0) * (rd_T42 l j).f1) = (m - (rd_T42 l j).f0) * (rd_T42 l j).f1 + F by unfold wrap64; omega]
        exact h3
      · rw [if_neg hc]
        have e1 : mn n (rd_T42 l j).f0 = n := by unfold mn; omega
        have e2 : mn n (rd_T42 l ((j + 1 : Nat) : Int)).f0 = n := by unfold mn; omega
        rw [e1]
        rw [e2, firstR_no _ (by omega)] at h3
        exact h3
    · have hj1 : j + 1 = l.length := by omega
      rw [if_neg (by omega)]
      rw [if_neg hlast] at h3
      by_cases hc : n > (rd_T42 l j).f0
      · rw [if_pos hc]
        have e1 : mn n (rd_T42 l j).f0 = (rd_T42 l j).f0 := by unfold mn; omega
        have e3 : mn n 86400 = n := by unfold mn; omega
        rw [e1, e3]
        rw [firstR_yes _ hc] at h3
        obtain ⟨b0, b1⟩ := firstR_bd (l.take j).reverse (rd_T42 l j).f0 hmem (by omega)
        generalize firstR (l.take j).reverse (rd_T42 l j).f0 = F at b0 b1 h3 ⊢
        obtain ⟨p0, p1⟩ := mul_bd (n - (rd_T42 l j).f0) (rd_T42 l j).f1 (by omega) g2 g3
        rw [show wrap64 (n - (rd_T42 l j).f0) = n - (rd_T42 l j).f0 by unfold wrap64; omega]
        rw [show wrap64 ((n - (rd_T42 l j).f0) * (rd_T42 l j).f1) = (n - (rd_T42 l j).f0) * (rd_T42 l j).f1 by unfold wrap64; omega]
        rw [show wrap64 (F + (n - (rd_T42 l j).f0) * (rd_T42 l j).f1) = (n - (rd_T42 l j).f0) * (rd_T42 l j).f1 + F by unfold wrap64; omega]
        exact h3
      · rw [if_neg hc]
        have e1 : mn n (rd_T42 l j).f0 = n := by unfold mn; omega
        rw [e1]
        rw [firstR_no _ (by omega)] at h3
        exact h3
theorem rpartial_is {l : List S42} (hg : good l = true) (n : Int) (hn0 : 0 ≤ n) (hn1 : n ≤ 86400) (k : Nat) (hk : 30 ≤ k) : crossbarref26_partial.f k l n = some (first l n) := by
  have h := rpartial_l0 hg n hn0 hn1 l.length k 0 (by omega) (by have := (good_len hg).2; omega) (by omega)
  unfold crossbarref26_partial.f
  exact h
theorem rtotal_is {l : List S42} (hg : good l = true) (x : Int) (hx : 0 ≤ x) (hx2 : x ≤ 1099511627776) (k : Nat) (hk : 30 ≤ k) : crossbarref26_total.f k l x = some (totalP l x) := by
  unfold crossbarref26_total.f
  rw [rpartial_is hg 86400 (by omega) (by omega) k hk, Option.bind_some, tmod_day x hx, tdiv_day x hx, rpartial_is hg (x % 86400) (by omega) (by omega) k hk, Option.bind_some]
  have hb := totalP_bd hg x hx
  obtain ⟨d0, d1⟩ := first_bd hg 86400 (by omega)
  obtain ⟨e0, e1⟩ := first_bd hg (x % 86400) (by omega)
  have p0 : 0 ≤ x / 86400 * first l 86400 := Int.mul_nonneg (by omega) d0
  unfold totalP at hb ⊢
  generalize hp : x / 86400 * first l 86400 = p at p0 hb ⊢
  generalize first l (x % 86400) = q at e0 hb ⊢
  clear d0 d1 e1
  rw [show wrap64 (x / 86400) = x / 86400 by clear hp p0 hb; unfold wrap64; omega, hp]
  clear hp
  rw [show wrap64 p = p by unfold wrap64; omega, show wrap64 (p + q) = p + q by unfold wrap64; omega]
theorem rprice_is (l : List S42) (a b : Int) (k : Nat) (hk : 31 ≤ k) : crossbarref26_Price.f k l a b = some (if good l = true then (if 0 ≤ a ∧ a ≤ b ∧ b ≤ 1099511627776 then (totalP l b - totalP l a, 0) else (0, 1)) else (0, 260)) := by
  obtain ⟨k, rfl⟩ : ∃ m, k = m + 1 := ⟨k - 1, by omega⟩
  unfold crossbarref26_Price.f
  rw [rcheck_is l _ (by omega), Option.bind_some]
  by_cases hg : good l = true
  · rw [if_pos hg, if_pos rfl, if_pos hg, rtime_is, Option.bind_some]
    by_cases ha : 0 ≤ a ∧ a ≤ 1099511627776
    · rw [decide_eq_true ha, if_pos rfl, rtime_is, Option.bind_some]
      by_cases hb : 0 ≤ b ∧ b ≤ 1099511627776
      · rw [decide_eq_true hb, if_pos rfl]
        simp only [crossbarref26_Price.j0]
        by_cases hc : a > b
        · rw [if_pos (decide_eq_true hc), if_neg (by omega)]
        · rw [if_neg (by simpa using hc), if_pos (by omega), rtotal_is hg b hb.1 hb.2 k (by omega), Option.bind_some, rtotal_is hg a ha.1 ha.2 k (by omega), Option.bind_some]
          have b1 := totalP_bd hg b hb.1
          have b2 := totalP_bd hg a ha.1
          rw [show wrap64 (totalP l b - totalP l a) = totalP l b - totalP l a by unfold wrap64; omega]
      · rw [decide_eq_false hb, if_neg (by simp), if_neg (by omega)]
        simp only [crossbarref26_Price.j0]; rw [if_pos trivial]
    · rw [decide_eq_false ha, if_neg (by simp), if_neg (by omega)]
      simp only [crossbarref26_Price.j0]; rw [if_pos trivial]
  · rw [if_neg hg, if_neg (by omega), if_neg hg]

theorem rafford_l0 {l : List S42} (hg : good l = true) (a u : Int) (ha : 0 ≤ a) (hu : 0 ≤ u) (m : Nat) (hm : a + m ≤ 1099511627776) : ∀ (d k lo hi : Nat), hi - lo ≤ 2 ^ d - 1 → d + 31 < k → lo ≤ affN l a u m → affN l a u m ≤ hi → hi ≤ m →
    crossbarref26_Afford.l0 k a u (lo : Int) (hi : Int) l = some ((affN l a u m : Int), 0) := by
  have hpay := affN_pays hg a u ha hu m
  intro d
  induction d with
  | zero =>
    intro k lo hi hd hk h1 h2 h3
    obtain ⟨k, rfl⟩ : ∃ m, k = m + 1 := ⟨k - 1, by omega⟩
    simp only [crossbarref26_Afford.l0]
    have : hi - lo ≤ 0 := by simpa using hd
    rw [if_neg (by omega), show lo = affN l a u m by omega]
  | succ d ih =>
    intro k lo hi hd hk h1 h2 h3
    obtain ⟨k, rfl⟩ : ∃ m, k = m + 1 := ⟨k - 1, by omega⟩
    simp only [crossbarref26_Afford.l0]
    by_cases hlt : lo < hi
    · obtain ⟨q, hq⟩ : ∃ q : Nat, q = (lo + hi + 1) / 2 := ⟨_, rfl⟩
      have hql : lo < q := by omega
      have hqh : q ≤ hi := by omega
      have e0 : wrap64 (Int.tdiv (wrap64 (wrap64 ((lo : Int) + hi) + 1)) 2) = (q : Int) := by
        rw [show wrap64 ((lo : Int) + hi) = (lo : Int) + hi by unfold wrap64; omega, show wrap64 ((lo : Int) + hi + 1) = (lo : Int) + hi + 1 by unfold wrap64; omega, Int.tdiv_eq_ediv_of_nonneg (by omega)]
        unfold wrap64; omega
      rw [if_pos (by clear e0; omega), e0]
      clear e0
      rw [show wrap64 (a + (q : Int)) = a + (q : Int) by unfold wrap64; omega, rtotal_is hg (a + q) (by omega) (by omega) k (by omega), Option.bind_some, rtotal_is hg a ha (by omega) k (by omega), Option.bind_some]
      have b1 := totalP_bd hg (a + q) (by omega)
      have b2 := totalP_bd hg a ha
      rw [show wrap64 (totalP l (a + q) - totalP l a) = totalP l (a + q) - totalP l a by unfold wrap64; omega]
      have hp2 : 2 ^ (d + 1) = 2 ^ d + 2 ^ d := by rw [Nat.pow_succ]; omega
      have hp1 : 1 ≤ 2 ^ d := Nat.one_le_two_pow
      generalize 2 ^ d = P at *
      by_cases hc : totalP l (a + q) - totalP l a ≤ u
      · rw [if_pos hc]
        refine ih k q hi (by omega) (by omega) ?_ h2 h3
        refine Nat.le_of_not_lt fun hlt2 => ?_
        have h4 := affN_max hg a u ha m (by omega)
        have h5 := totalP_mono hg (a + (affN l a u m : Int) + 1) (a + q) (by omega) (by omega)
        omega
      · rw [if_neg hc, show wrap64 ((q : Int) - 1) = ((q - 1 : Nat) : Int) by unfold wrap64; omega]
        refine ih k lo (q - 1) (by omega) (by omega) h1 ?_ (by omega)
        have : affN l a u m < q := by
          refine Nat.lt_of_not_le fun hle => ?_
          have h5 := totalP_mono hg (a + q) (a + (affN l a u m : Int)) (by omega) (by omega)
          omega
        omega
    · rw [if_neg (by omega), show lo = affN l a u m by omega]
theorem rafford_is (l : List S42) (a u m : Int) (k : Nat) (hk : 100 ≤ k) : crossbarref26_Afford.f k l a u m = tariff_Afford.f l a u m := by
  obtain ⟨k, rfl⟩ : ∃ m, k = m + 1 := ⟨k - 1, by omega⟩
  unfold crossbarref26_Afford.f tariff_Afford.f
  rw [rcheck_is l _ (by omega), Option.bind_some]
  by_cases hg : good l = true
  · rw [if_pos hg, if_pos rfl, if_pos hg, rtime_is, Option.bind_some]
    by_cases h1 : 0 ≤ a ∧ a ≤ 1099511627776
    · rw [decide_eq_true h1, if_pos rfl]
      by_cases h2 : u < 0
      · rw [if_pos h2, if_neg (by omega)]; simp only [crossbarref26_Afford.j0]; rw [if_pos trivial]
      rw [if_neg h2]
      by_cases h3 : m < 0
      · rw [if_pos h3, if_neg (by omega)]; simp only [crossbarref26_Afford.j0]; rw [if_pos trivial]
      rw [if_neg h3, show wrap64 (1099511627776 - a) = 1099511627776 - a by unfold wrap64; omega]
      simp only [crossbarref26_Afford.j0]
      by_cases h4 : m > 1099511627776 - a
      · rw [if_pos (decide_eq_true h4), if_neg (by omega)]
      · rw [if_neg (by simpa using h4), if_pos (by omega)]
        obtain ⟨n, rfl⟩ := Int.eq_ofNat_of_zero_le (show 0 ≤ m by omega)
        rw [Int.toNat_natCast]
        have e2 : (2 : Nat) ^ 41 = 2199023255552 := by decide
        have := rafford_l0 hg a u h1.1 (by omega) n (by omega) 41 k 0 n (by rw [e2]; omega) (by omega) (Nat.zero_le _) (affN_le l a u n) (Nat.le_refl _)
        exact this
    · rw [decide_eq_false h1, if_neg (by simp), if_neg (by omega)]; simp only [crossbarref26_Afford.j0]; rw [if_pos trivial]
  · rw [if_neg hg, if_neg (by omega), if_neg hg]
end Go.Proofs.Ytldpacphackdjaa.Print
