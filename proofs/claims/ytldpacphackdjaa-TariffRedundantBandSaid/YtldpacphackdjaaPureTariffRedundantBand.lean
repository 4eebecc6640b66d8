/- That the printed law TariffRedundantBand answers true at every tariff and all numbers. No condition that the law itself does not guard. -/
import Derived.Test.YtldpacphackdjaaPTarSane
import Derived.Test.YtldpacphackdjaaRowKit
import Derived.Test.YtldpacphackdjaaF10
namespace Go.Proofs.Ytldpacphackdjaa.Print
open Go.RowKit Go.Proofs.YtldpacphackdjaaW.PrintWords Go.Proofs.YtldpacphackdjaaW.PrintLast Go.Proofs.YtldpacphackdjaaW.PrintMore
set_option linter.unusedVariables false
set_option linter.unusedSimpArgs false

theorem tred_skip (k : Nat) (l : List S42) (a b c d : Int) : crossbarlaw26_TariffRedundantBand.j0 (k + 1) a b c d true l = some true := by
  simp only [crossbarlaw26_TariffRedundantBand.j0]; rw [if_pos trivial]
theorem firstR_prefix {A B : List S42} (h : ∀ n, firstR A n = firstR B n) : ∀ (P : List S42) (n : Int), firstR (P ++ A) n = firstR (P ++ B) n
  | [], n => h n
  | b :: t, n => by
    simp only [List.cons_append, firstR]
    rw [firstR_prefix h t, firstR_prefix h t]
theorem rateR_prefix {A B : List S42} (h : ∀ n, rateR A n = rateR B n) : ∀ (P : List S42) (n : Int), rateR (P ++ A) n = rateR (P ++ B) n
  | [], n => h n
  | b :: t, n => by
    simp only [List.cons_append, rateR]
    rw [rateR_prefix h t]
theorem red_rev (l : List S42) (i : Nat) (hi : i < l.length) (nb : S42) : (l.take (i + 1) ++ [nb] ++ l.drop (i + 1)).reverse = (l.drop (i + 1)).reverse ++ (nb :: l[i] :: (l.take i).reverse) ∧ l.reverse = (l.drop (i + 1)).reverse ++ (l[i] :: (l.take i).reverse) := by
  have e : (l.take (i + 1)).reverse = l[i] :: (l.take i).reverse := by
    rw [List.take_succ_eq_append_getElem hi]
    simp
  constructor
  · rw [List.reverse_append, List.reverse_append, e]
    simp
  · have h2 : l.reverse = (l.take (i + 1) ++ l.drop (i + 1)).reverse := by rw [List.take_append_drop]
    rw [h2, List.reverse_append, e]
theorem red_first (l : List S42) (i : Nat) (hi : i < l.length) (nb : S42) (h0 : l[i].f0 < nb.f0) (h1 : nb.f1 = l[i].f1) (n : Int) : first (l.take (i + 1) ++ [nb] ++ l.drop (i + 1)) n = first l n := by
  obtain ⟨e1, e2⟩ := red_rev l i hi nb
  unfold first
  rw [e1, e2]
  refine firstR_prefix (fun n => ?_) _ n
  by_cases hn : nb.f0 < n
  · rw [firstR_yes _ hn, firstR_yes _ h0, firstR_yes (b := l[i]) _ (by omega : l[i].f0 < n), h1]
    have : (n - l[i].f0) * l[i].f1 = (n - nb.f0) * l[i].f1 + (nb.f0 - l[i].f0) * l[i].f1 := by rw [← Int.add_mul]; congr 1; omega
    omega
  · rw [firstR_no _ hn]
theorem red_rate (l : List S42) (i : Nat) (hi : i < l.length) (nb : S42) (h0 : l[i].f0 < nb.f0) (h1 : nb.f1 = l[i].f1) (n : Int) : rateAt (l.take (i + 1) ++ [nb] ++ l.drop (i + 1)) n = rateAt l n := by
  obtain ⟨e1, e2⟩ := red_rev l i hi nb
  unfold rateAt
  rw [e1, e2]
  refine rateR_prefix (fun n => ?_) _ n
  simp only [rateR]
  by_cases hn : nb.f0 ≤ n
  · rw [if_pos hn, if_pos (by omega : l[i].f0 ≤ n), h1]
  · rw [if_neg hn]
theorem red_total (l : List S42) (i : Nat) (hi : i < l.length) (nb : S42) (h0 : l[i].f0 < nb.f0) (h1 : nb.f1 = l[i].f1) (n : Int) : totalP (l.take (i + 1) ++ [nb] ++ l.drop (i + 1)) n = totalP l n := by
  unfold totalP
  rw [red_first l i hi nb h0 h1, red_first l i hi nb h0 h1]
theorem TariffRedundantBand_pure (l : List S42) (a b c d : Int) (hn : l.length ≤ 9223372036854775807) (hw : ∀ x ∈ l, Rng x.f0 ∧ Rng x.f1) (w1 : (Lit.int .i64 a).wf = true) (w2 : (Lit.int .i64 b).wf = true) (w3 : (Lit.int .i64 c).wf = true) (w4 : (Lit.int .i64 d).wf = true) : ∃ k, crossbarlaw26_TariffRedundantBand.f k l a b c d = some true := by
  refine ⟨200, ?_⟩
  unfold crossbarlaw26_TariffRedundantBand.f
  rw [sane26_is 200 (by omega), Option.bind_some, if_pos rfl, few_is, Option.bind_some]
  by_cases hf : l.length ≤ 100
  · rw [if_pos (decide_eq_true hf), check_is l 200 (by omega), Option.bind_some]
    by_cases hg : good l = true
    · rw [if_pos hg, if_pos rfl]
      by_cases h1 : a < 0
      · rw [if_pos h1]; exact tred_skip 199 l a b c d
      rw [if_neg h1]
      by_cases h2 : a ≥ (l.length : Int)
      · rw [decide_eq_true h2]; exact tred_skip 199 l a b c d
      rw [decide_eq_false h2]
      obtain ⟨i, rfl⟩ : ∃ i : Nat, a = (i : Int) := ⟨a.toNat, by omega⟩
      have hi : i < l.length := by omega
      have hl := good_len hg
      have hrd : rd_T42 l (i : Int) = l[i] := by simp [rd_T42, List.getD_eq_getElem?_getD, List.getElem?_eq_getElem hi]
      simp only [crossbarlaw26_TariffRedundantBand.j0]
      rw [if_neg (by simp), show wrap64 ((i : Int) + 1) = ((i + 1 : Nat) : Int) by unfold wrap64; omega, if_pos (by omega), if_pos (by omega), Option.bind_some, Int.toNat_natCast, hrd]
      simp only [List.nil_append, List.length_nil, Option.bind_some]
      rw [if_pos (by simp; omega), if_pos (by omega), if_pos (by omega), if_pos (by simp; omega), if_pos (by simp; omega), check_is _ 199 (by omega), Option.bind_some]
      obtain ⟨u, hu⟩ : ∃ u, u = l.take (i + 1) ++ [(⟨b, l[i].f1⟩ : S42)] ++ l.drop (i + 1) := ⟨_, rfl⟩
      rw [← hu]
      by_cases gu : good u = true
      · rw [if_pos gu, if_pos rfl]
        have hul : u.length = l.length + 1 := by rw [hu]; simp; omega
        have r1 : rd_T42 u (i : Int) = l[i] := by
          have hiu : i < u.length := by omega
          have : u[i]? = some l[i] := by
            rw [hu, List.append_assoc, List.getElem?_append_left (by simp; omega), List.getElem?_take, if_pos (by omega), List.getElem?_eq_getElem hi]
          simp [rd_T42, List.getD_eq_getElem?_getD, this]
        have r2 : rd_T42 u ((i + 1 : Nat) : Int) = ⟨b, l[i].f1⟩ := by
          have : u[i + 1]? = some (⟨b, l[i].f1⟩ : S42) := by
            rw [hu, List.append_assoc, List.getElem?_append_right (by simp; omega)]
            simp [show i + 1 - min (i + 1) l.length = 0 by omega]
          simp only [rd_T42, List.getD_eq_getElem?_getD, Int.toNat_natCast, this]
          rfl
        have hlt := good_lt gu i (i + 1) (by omega) (by omega)
        rw [r1, r2] at hlt
        have ht : ∀ n, totalP u n = totalP l n := fun n => by rw [hu]; exact red_total l i hi ⟨b, l[i].f1⟩ hlt rfl n
        have hr : ∀ n, rateAt u n = rateAt l n := fun n => by rw [hu]; exact red_rate l i hi ⟨b, l[i].f1⟩ hlt rfl n
        rw [price_is l c d 199 (by omega), Option.bind_some, price_is u c d 199 (by omega), Option.bind_some, if_pos hg, if_pos gu, ht, ht]
        by_cases hc : 0 ≤ c ∧ c ≤ 1099511627776
        · obtain ⟨n1, o1, e1, c1, _⟩ := change_yes hg c hc.1 hc.2 199 (by omega)
          obtain ⟨n2, o2, e2, c2, _⟩ := change_yes gu c hc.1 hc.2 199 (by omega)
          have c3 : ChangeIs l c n2 o2 := by
            unfold ChangeIs at c2 ⊢
            simpa only [hr] using c2
          obtain ⟨rfl, rfl⟩ := c1.unique c3
          rw [e1, Option.bind_some, e2, Option.bind_some]
          simp
        · rw [change_no l c 199 (by omega) (fun h => hc h.2), Option.bind_some, change_no u c 199 (by omega) (fun h => hc h.2), Option.bind_some, if_pos hg, if_pos gu]
          simp
      · rw [if_neg gu, if_neg (by decide)]
    · rw [if_neg hg, if_neg (by decide)]; exact tred_skip 199 l a b c d
  · rw [if_neg (by simpa using hf)]; exact tred_skip 199 l a b c d
end Go.Proofs.Ytldpacphackdjaa.Print
