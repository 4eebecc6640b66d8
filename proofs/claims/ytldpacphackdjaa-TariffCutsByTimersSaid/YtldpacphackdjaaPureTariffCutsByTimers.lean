/- That the printed law TariffCutsByTimers answers true at every tariff, time and number of seconds. No condition that the law itself does not guard. -/
import Derived.Test.YtldpacphackdjaaPTarSane
import Derived.Test.YtldpacphackdjaaPTimSane
import Derived.Test.YtldpacphackdjaaF19
namespace Go.Proofs.Ytldpacphackdjaa.Print
open Go.RowKit Go.Proofs.YtldpacphackdjaaW.PrintWords Go.Proofs.YtldpacphackdjaaW.PrintLast Go.Proofs.YtldpacphackdjaaW.PrintMore
set_option linter.unusedVariables false
set_option linter.unusedSimpArgs false

theorem tcut_skip (k : Nat) (l : List S42) (a b : Int) : crossbarlaw26_TariffCutsByTimers.j0 (k + 1) a b true l = some true := by
  simp only [crossbarlaw26_TariffCutsByTimers.j0]; rw [if_pos trivial]
/-- How many bands have started up to a time. -/
def starts (l : List S42) (x : Int) : Int := x / 86400 * (l.length : Int) + (upTo (x % 86400) l : Int)
theorem starts_mono {l : List S42} (h : good l = true) (x y : Int) (hx : 0 ≤ x) (hxy : x ≤ y) : starts l x ≤ starts l y := by
  unfold starts
  have u1 := upTo_le (x % 86400) l
  have u2 := upTo_le (y % 86400) l
  by_cases hd : x / 86400 = y / 86400
  · rw [hd]
    have := upTo_mono h (x % 86400) (y % 86400) (by omega)
    omega
  · have hlt : x / 86400 + 1 ≤ y / 86400 := by omega
    have := Int.mul_le_mul_of_nonneg_right hlt (show (0 : Int) ≤ (l.length : Int) by omega)
    rw [Int.add_mul, Int.one_mul] at this
    omega
theorem starts_step {l : List S42} (h : good l = true) (y : Int) (hy : 1 ≤ y) (hne : rateAt l (y % 86400) ≠ rateAt l ((y - 1) % 86400)) : starts l (y - 1) + 1 ≤ starts l y := by
  unfold starts
  have u1 := upTo_le ((y - 1) % 86400) l
  by_cases h0 : y % 86400 = 0
  · have hp := good_upTo_pos h (y % 86400) (by omega)
    have hq : (y - 1) / 86400 = y / 86400 - 1 := by omega
    rw [hq, Int.sub_mul, Int.one_mul]
    omega
  · have hq : (y - 1) / 86400 = y / 86400 := by omega
    have hm : (y - 1) % 86400 = y % 86400 - 1 := by omega
    rw [hq, hm]
    rw [hm] at hne
    have hmono := upTo_mono h (y % 86400 - 1) (y % 86400) (by omega)
    by_cases he : upTo (y % 86400 - 1) l = upTo (y % 86400) l
    · exfalso
      apply hne
      rw [rateAt_eq h _ (by omega), rateAt_eq h _ (by omega), he]
    · omega
theorem starts_few {l : List S42} (h : good l = true) (x : Int) (n : Int) (hx : 0 ≤ x) (hn : 0 ≤ n) (hn2 : n ≤ 400000) : starts l (x + n) ≤ starts l x + 150 := by
  unfold starts
  have hl := good_len h
  have u2 := upTo_le ((x + n) % 86400) l
  have hd : (x + n) / 86400 ≤ x / 86400 + 5 := by omega
  have := Int.mul_le_mul_of_nonneg_right hd (show (0 : Int) ≤ (l.length : Int) by omega)
  rw [Int.add_mul] at this
  omega
theorem tcut_l0 {l : List S42} (hg : good l = true) (a n : Int) (ha : 0 ≤ a) (ha2 : a ≤ 1099510627776) (hn : 0 ≤ n) (hn2 : n ≤ 400000) : ∀ (d : Nat) (r at_ : Int) (k : Nat), (200 - r).toNat = d → 0 ≤ r → a ≤ at_ → at_ ≤ a + n → starts l a + r ≤ starts l at_ → 300 + 10 * d ≤ k →
    crossbarlaw26_TariffCutsByTimers.l0 k (a + n) (totalP l (a + n) - totalP l a) (totalP l at_ - totalP l a) at_ r l = some true := by
  intro d
  have hfew := starts_few hg a n ha hn hn2
  induction d with
  | zero =>
    intro r at_ k hd hr h1 h2 h3 hk
    have := starts_mono hg at_ (a + n) (by omega) h2
    omega
  | succ d ih =>
    intro r at_ k hd hr h1 h2 h3 hk
    have hmono := starts_mono hg at_ (a + n) (by omega) h2
    obtain ⟨k, rfl⟩ : ∃ i, k = i + 3 := ⟨k - 3, by omega⟩
    obtain ⟨nx, ok, e1, c1, u1⟩ := change_yes hg at_ (by omega) (by omega) (k + 2) (by omega)
    have hrb := rateAt_bd hg (at_ % 86400)
    have p1 := totalP_mono hg a at_ ha h1
    have p2 := totalP_mono hg at_ (a + n) (by omega) h2
    have p3 := totalP_bd hg (a + n) (by omega)
    have p4 := totalP_bd hg a ha
    have p5 := totalP_add hg a ha n.toNat
    rw [show a + ((n.toNat : Nat) : Int) = a + n by omega] at p5
    simp only [crossbarlaw26_TariffCutsByTimers.l0]
    rw [if_pos (by omega), e1, Option.bind_some, rate_ok hg at_ (by omega) (by omega) (k + 2) (by omega), Option.bind_some]
    simp only
    rw [if_pos trivial]
    -- the last piece: the rate stays to the end
    have fin : (∀ y, at_ ≤ y → y < a + n → rateAt l (y % 86400) = rateAt l (at_ % 86400)) → crossbarlaw26_TariffCutsByTimers.j3 (k + 1) (a + n) (totalP l (a + n) - totalP l a) (totalP l at_ - totalP l a) at_ nx (rateAt l (at_ % 86400)) r true l = some true := fun hc => by
      have hfl := totalP_flat hg at_ (by omega) (rateAt l (at_ % 86400)) (a + n - at_).toNat (fun y g1 g2 => hc y g1 (by omega))
      rw [show at_ + (((a + n - at_).toNat : Nat) : Int) = a + n by omega, show (((a + n - at_).toNat : Nat) : Int) = a + n - at_ by omega] at hfl
      have hmul := mul_bd (a + n - at_) (rateAt l (at_ % 86400)) (by omega) hrb.1 hrb.2
      simp only [crossbarlaw26_TariffCutsByTimers.j3]
      rw [if_pos trivial, show wrap64 (a + n - at_) = a + n - at_ by unfold wrap64; omega]
      generalize (a + n - at_) * rateAt l (at_ % 86400) = pr at hmul hfl ⊢
      rw [show wrap64 pr = pr by unfold wrap64; omega, show wrap64 (totalP l at_ - totalP l a + pr) = totalP l at_ - totalP l a + pr by unfold wrap64; omega]
      simp
      omega
    simp only [crossbarlaw26_TariffCutsByTimers.j2]
    rw [if_neg (by decide)]
    rcases c1 with ⟨rfl, c2, c3, c4⟩ | ⟨rfl, rfl, c4⟩
    · rw [if_pos rfl]
      by_cases hge : nx ≥ a + n
      · rw [decide_eq_true hge]
        exact fin (fun y g1 g2 => c4 y g1 (by omega))
      · rw [decide_eq_false hge]
        have hfl := totalP_flat hg at_ (by omega) (rateAt l (at_ % 86400)) (nx - at_).toNat (fun y g1 g2 => c4 y g1 (by omega))
        rw [show at_ + (((nx - at_).toNat : Nat) : Int) = nx by omega, show (((nx - at_).toNat : Nat) : Int) = nx - at_ by omega] at hfl
        have hmul := mul_bd (nx - at_) (rateAt l (at_ % 86400)) (by omega) hrb.1 hrb.2
        have p6 := totalP_mono hg nx (a + n) (by omega) (by omega)
        have tnx : timeOk nx = true := by unfold timeOk; simp; omega
        have tnx1 : timeOk (nx - 1) = true := by unfold timeOk; simp; omega
        have s0 : chk ([] : List S64) = 0 := by decide
        have e2 : timers_Set.f ([] : List S64) 1 nx = some ([⟨1, nx⟩], 0) := by
          rw [set_is idsOk_nil, if_pos s0, if_pos tnx, if_neg (by decide)]
          rfl
        have ok1 : Ok ([⟨1, nx⟩] : List S64) := ⟨by simpa using tnx, by simp, by simp⟩
        have s1 : chk ([⟨1, nx⟩] : List S64) = 0 := chk_zero.2 ⟨by simp, ok1⟩
        have i1 : idsOk ([⟨1, nx⟩] : List S64) = true := by rfl
        have e3 : timers_Next.f ([⟨1, nx⟩] : List S64) = some (nx, true) := by
          rw [next_is i1, if_pos s1, if_neg (by simp)]
          rfl
        have e4 : timers_Expire.f ([⟨1, nx⟩] : List S64) (nx - 1) = some ([⟨1, nx⟩], [], 0) := by
          rw [expire_is i1, if_pos s1, if_pos tnx1]
          simp [later, due]
          omega
        have hst := starts_step hg nx (by omega) (by rw [c4 (nx - 1) (by omega) (by omega)]; exact c3)
        have hsm := starts_mono hg at_ (nx - 1) (by omega) (by omega)
        simp only [crossbarlaw26_TariffCutsByTimers.j3]
        rw [if_neg (by simp), e2, Option.bind_some]
        simp only
        rw [e3, Option.bind_some, show wrap64 (nx - 1) = nx - 1 by unfold wrap64; omega, e4, Option.bind_some]
        simp only
        rw [if_pos trivial, if_pos trivial, if_pos trivial, if_pos (by simp), if_neg (by omega), show wrap64 (nx - at_) = nx - at_ by unfold wrap64; omega]
        have hpr : wrap64 ((nx - at_) * rateAt l (at_ % 86400)) = totalP l nx - totalP l at_ := by
          rw [hfl]
          generalize (nx - at_) * rateAt l (at_ % 86400) = pr at hmul
          unfold wrap64; omega
        rw [hpr, show wrap64 (totalP l at_ - totalP l a + (totalP l nx - totalP l at_)) = totalP l nx - totalP l a by unfold wrap64; omega, show wrap64 (r + 1) = r + 1 by unfold wrap64; omega]
        exact ih (r + 1) nx k (by omega) (by omega) (by omega) (by omega) (by omega) (by omega)
    · rw [if_neg (by simp)]
      exact fin (fun y g1 g2 => c4 y)
theorem TariffCutsByTimers_pure (l : List S42) (a n : Int) (hn : l.length ≤ 9223372036854775807) (hw : ∀ x ∈ l, Rng x.f0 ∧ Rng x.f1) (w1 : (Lit.int .i64 a).wf = true) (w2 : (Lit.int .u32 n).wf = true) : ∃ k, crossbarlaw26_TariffCutsByTimers.f k l a n = some true := by
  refine ⟨3000, ?_⟩
  have hn0 : 0 ≤ n ∧ n ≤ 4294967295 := by have h := w2; simp only [Lit.wf, Bool.and_eq_true, decide_eq_true_eq] at h; exact h
  unfold crossbarlaw26_TariffCutsByTimers.f
  rw [sane26_is 3000 (by omega), Option.bind_some, if_pos rfl, few_is, Option.bind_some]
  by_cases hf : l.length ≤ 100
  · rw [if_pos (decide_eq_true hf)]
    by_cases h1 : n > 400000
    · rw [if_pos h1]; exact tcut_skip 2999 l a n
    rw [if_neg h1]
    by_cases h2 : a < 0
    · rw [if_pos h2]; exact tcut_skip 2999 l a n
    rw [if_neg h2]
    by_cases h3 : a > 1099510627776
    · rw [if_pos h3]; exact tcut_skip 2999 l a n
    rw [if_neg h3, check_is l 3000 (by omega), Option.bind_some]
    by_cases hg : good l = true
    · rw [if_pos hg, show ((0 : Int) != 0) = false from rfl]
      simp only [crossbarlaw26_TariffCutsByTimers.j0]
      have hwn : wrap64 n = n := by unfold wrap64; omega
      rw [if_neg (by simp), hwn, show wrap64 (a + n) = a + n by unfold wrap64; omega, price_ok hg a (a + n) (by omega) (by omega) (by omega) 2999 (by omega), Option.bind_some]
      simp only
      rw [if_pos trivial]
      have := tcut_l0 hg a n (by omega) (by omega) hn0.1 (by omega) 200 0 a 2999 (by omega) (by omega) (by omega) (by omega) (by omega) (by omega)
      rw [Int.sub_self] at this
      exact this
    · rw [if_neg hg, show ((260 : Int) != 0) = true from rfl]; exact tcut_skip 2999 l a n
  · rw [if_neg (by simpa using hf)]; exact tcut_skip 2999 l a n
end Go.Proofs.Ytldpacphackdjaa.Print
