/- That the printed law TimersExpireInOrder answers true at every script and time. No condition that the law itself does not guard. -/
import Derived.Test.YtldpacphackdjaaPTimBuilt
import Derived.Test.YtldpacphackdjaaF13
namespace Go.Proofs.Ytldpacphackdjaa.Print
open Go.RowKit Go.Proofs.YtldpacphackdjaaW.PrintWords Go.Proofs.YtldpacphackdjaaW.PrintLast Go.Proofs.YtldpacphackdjaaW.PrintMore
set_option linter.unusedVariables false
set_option linter.unusedSimpArgs false

theorem tord_l2 (q kept D xL : List S64) (hI : Inv q kept 100) (hD : ∀ x ∈ D, x ∈ q) (hp : D.Pairwise (fun a b => prec a b = true)) (c : Int) (i : Nat) (hi : i < D.length) (hDl : D.length ≤ 100) (last : S64) (hlast : ∀ h : 0 < i, last = D[i - 1]) (K : Nat)
    (H : ∀ k, K ≤ k → crossbarlaw10_TimersExpireInOrder.l1 k kept (D.map (·.f0)) c ((i + 1 : Nat) : Int) xL D[i].f0 D[i].f1 = some true) :
    ∀ (d j k : Nat), kept.length - j = d → K + d + 1 ≤ k → (∃ j', j ≤ j' ∧ ∃ h : j' < kept.length, kept[j'] = D[i]) → crossbarlaw10_TimersExpireInOrder.l2 k kept (D.map (·.f0)) c (i : Int) (j : Int) xL last.f0 last.f1 = some true := by
  intro d
  have hkl := hI.klen
  induction d with
  | zero =>
    intro j k hd hk hex
    obtain ⟨j', h1, h2, h3⟩ := hex
    omega
  | succ d ih =>
    intro j k hd hk hex
    obtain ⟨k, rfl⟩ : ∃ i, k = i + 1 := ⟨k - 1, by omega⟩
    have hj : j < kept.length := by omega
    have hrd : rd (D.map (·.f0)) (i : Int) = D[i].f0 := by rw [rdI_is _ i (by simpa using hi)]; simp
    simp only [crossbarlaw10_TimersExpireInOrder.l2]
    rw [if_pos (by omega), if_pos (by omega), if_pos (by omega), if_pos (by rw [List.length_map]; omega), hrd, w1 (by omega), w1 (by omega), rd_is kept j hj]
    by_cases he : kept[j].f0 = D[i].f0
    · have hk2 : kept[j] = D[i] := hI.same (List.getElem_mem hj) ((hI.mem _).1 (hD _ (List.getElem_mem hi))) he
      rw [if_pos he, hk2, H k (by omega)]
      by_cases h0 : i = 0
      · rw [if_neg (by omega)]
      · rw [if_pos (by omega)]
        have hl := hlast (by omega)
        have hpr := List.pairwise_iff_getElem.1 hp (i - 1) i (by omega) hi (by omega)
        rw [← hl, prec_iff] at hpr
        rw [if_neg (by omega)]
        by_cases hq : D[i].f1 = last.f1
        · rw [if_pos hq, if_neg (by omega)]
        · rw [if_neg hq]
    · rw [if_neg he]
      obtain ⟨j', h1, h2, h3⟩ := hex
      refine ih (j + 1) k (by omega) (by omega) ⟨j', ?_, h2, h3⟩
      rcases Nat.lt_or_ge j j' with h | h
      · exact h
      · have : j = j' := by omega
        subst this
        exact absurd (by rw [h3]) he
theorem tord_l1 (q kept D xL : List S64) (hI : Inv q kept 100) (hD : ∀ x ∈ D, x ∈ q) (hp : D.Pairwise (fun a b => prec a b = true)) (c : Int) (hDl : D.length ≤ 100) (hc : (D.length : Int) = c) (hx : (xL.length : Int) = wrap64 ((kept.length : Int) - c)) (ix : idsOk xL = true) (cx : chk xL = 0) :
    ∀ (d i k : Nat) (last : S64), D.length - i = d → i ≤ D.length → cost d ≤ k → (∀ h : 0 < i, ∃ h2 : i - 1 < D.length, last = D[i - 1]) → crossbarlaw10_TimersExpireInOrder.l1 k kept (D.map (·.f0)) c (i : Int) xL last.f0 last.f1 = some true := by
  intro d
  have hkl := hI.klen
  induction d with
  | zero =>
    intro i k last hd hi hk hl
    have hcp := cost_pos 0
    obtain ⟨k, rfl⟩ : ∃ i, k = i + 1 := ⟨k - 1, by omega⟩
    simp only [crossbarlaw10_TimersExpireInOrder.l1]
    rw [if_neg (by rw [List.length_map]; omega), if_pos (by rw [List.length_map]; exact hc), if_pos hx, qcheck_is ix, Option.bind_some, cx]
    rfl
  | succ d ih =>
    intro i k last hd hi hk hl
    rw [cost_succ] at hk
    obtain ⟨cc, hcc⟩ : ∃ c, cost d = c := ⟨_, rfl⟩
    rw [hcc] at hk ih
    obtain ⟨k, rfl⟩ : ∃ i, k = i + 1 := ⟨k - 1, by omega⟩
    have hil : i < D.length := by omega
    simp only [crossbarlaw10_TimersExpireInOrder.l1]
    rw [if_pos (by rw [List.length_map]; omega)]
    have hmem := (hI.mem _).1 (hD _ (List.getElem_mem hil))
    obtain ⟨j', h1, h2⟩ := List.mem_iff_getElem.1 hmem
    have := tord_l2 q kept D xL hI hD hp c i hil hDl last (fun h => (hl h).2) cc (fun k hk => ih (i + 1) k D[i] (by omega) (by omega) hk (fun _ => ⟨by omega, by simp⟩)) kept.length 0 k (by omega) (by omega) ⟨j', by omega, h1, h2⟩
    exact this
theorem tord_l0 (q kept xL : List S64) (now : Int) (hI : Inv q kept 100) (K : Nat) (hK : 3000 ≤ K)
    (H : ∀ k, K ≤ k → crossbarlaw10_TimersExpireInOrder.l1 k kept ((due now q).map (·.f0)) ((due now kept).length : Int) 0 xL 0 0 = some true) :
    ∀ (d i k : Nat), kept.length - i = d → i ≤ kept.length → K + d + 1 ≤ k → crossbarlaw10_TimersExpireInOrder.l0 k now kept ((due now q).map (·.f0)) ((due now (kept.take i)).length : Int) (i : Int) xL = some true := by
  intro d
  have hkl := hI.klen
  have hql := hI.len
  have hdl : (due now q).length ≤ q.length := List.length_filter_le ..
  induction d with
  | zero =>
    intro i k hd hi hk
    obtain ⟨k, rfl⟩ : ∃ i, k = i + 1 := ⟨k - 1, by omega⟩
    simp only [crossbarlaw10_TimersExpireInOrder.l0]
    rw [if_neg (by omega), List.take_of_length_le (by omega)]
    exact H k (by omega)
  | succ d ih =>
    intro i k hd hi hk
    obtain ⟨k, rfl⟩ : ∃ i, k = i + 1 := ⟨k - 1, by omega⟩
    have hj : i < kept.length := by omega
    have hit := ih (i + 1) k (by omega) (by omega) (by omega)
    have htk : (due now (kept.take i)).length ≤ (kept.take i).length := List.length_filter_le ..
    have hti : (kept.take i).length ≤ i := List.length_take_le ..
    simp only [crossbarlaw10_TimersExpireInOrder.l0]
    rw [if_pos (by omega), if_pos (by omega), rd_is kept i hj, has_is _ _ (by rw [List.length_map]; omega) k (by omega), Option.bind_some, w1 (show i < 1000000000000 by omega)]
    have hmem : (kept[i].f0 ∈ (due now q).map (·.f0)) ↔ kept[i].f1 ≤ now := by
      constructor
      · intro h
        obtain ⟨y, hy, he⟩ := List.mem_map.1 h
        obtain ⟨hy1, hy2⟩ := List.mem_filter.1 hy
        have := hI.same ((hI.mem y).1 hy1) (List.getElem_mem hj) he
        rw [← this]
        simpa using hy2
      · intro h
        exact List.mem_map.2 ⟨kept[i], List.mem_filter.2 ⟨(hI.mem _).2 (List.getElem_mem hj), by simpa using h⟩, rfl⟩
    rw [List.take_succ_eq_append_getElem hj] at hit
    by_cases h : kept[i].f1 ≤ now
    · have e : due now (kept.take i ++ [kept[i]]) = due now (kept.take i) ++ [kept[i]] := by
        have e0 : [kept[i]].filter (fun x => decide (x.f1 ≤ now)) = [kept[i]] := by simp [List.filter_cons, h]
        unfold due
        rw [List.filter_append, e0]
      rw [e, List.length_append, List.length_singleton] at hit
      rw [if_neg (by simp [hmem, h]), if_pos h, w1 (show (due now (kept.take i)).length < 1000000000000 by omega)]
      exact hit
    · have e : due now (kept.take i ++ [kept[i]]) = due now (kept.take i) := by
        have e0 : [kept[i]].filter (fun x => decide (x.f1 ≤ now)) = [] := by simp [List.filter_cons, h]
        unfold due
        rw [List.filter_append, e0, List.append_nil]
      rw [e] at hit
      rw [if_neg (by simp [hmem, h]), if_neg h]
      exact hit
theorem TimersExpireInOrder_pure (l : List S88) (now : Int) (hn : l.length ≤ 9223372036854775807) (hw : ∀ x ∈ l, Rng x.f0 ∧ Rng x.f1) (w1 : (Lit.int .i64 now).wf = true) : ∃ k, crossbarlaw10_TimersExpireInOrder.f k l now = some true := by
  obtain ⟨k, hk⟩ : ∃ k : Nat, 2000000 ≤ k := ⟨2000000, Nat.le_refl _⟩
  refine ⟨k, ?_⟩
  unfold crossbarlaw10_TimersExpireInOrder.f
  rw [sane10_is k (by omega), Option.bind_some, if_pos rfl]
  by_cases hf : l.length > 100
  · rw [if_pos (by omega)]
  · obtain ⟨q, kept, h1, hI⟩ := built_is l (by omega) hw k (by omega)
    have hql := hI.len
    have hkl := hI.klen
    have hchk : chk q = 0 := chk_zero.2 ⟨by omega, hI.ok⟩
    rw [if_neg (by omega), h1, Option.bind_some]
    simp only
    rw [expire_is hI.ids, if_pos hchk, Option.bind_some]
    by_cases ht : timeOk now = true
    · rw [if_pos ht]
      simp only
      rw [if_pos trivial]
      have hp := hI.perm
      have hdp : (due now q).length = (due now kept).length := (hp.filter _).length_eq
      have hlp : (later now q).length = (later now kept).length := (hp.filter _).length_eq
      have hpl := hp.length_eq
      have hsum : ∀ m : List S64, (due now m).length + (later now m).length = m.length := fun m => by
        induction m with
        | nil => rfl
        | cons a r ih =>
          by_cases ha : a.f1 ≤ now
          · simp only [due, later, List.filter_cons] at ih ⊢
            simp [ha] at ih ⊢
            omega
          · simp only [due, later, List.filter_cons] at ih ⊢
            simp [ha] at ih ⊢
            omega
      have hs := hsum q
      have hck : chk (later now q) = 0 := chk_zero.2 ⟨by omega, hI.ok.filter _⟩
      have hcost : cost (due now q).length ≤ 1000000 := by unfold cost; omega
      have hx : ((later now q).length : Int) = wrap64 ((kept.length : Int) - ((due now kept).length : Int)) := by
        unfold wrap64
        omega
      have L1 := fun k (hk : 1000000 ≤ k) => tord_l1 q kept (due now q) (later now q) hI (fun x hx => (List.mem_filter.1 hx).1) (hI.ok.filter _).2.2 ((due now kept).length : Int) (by omega) (by omega) hx (idsOk_filter hI.ids _) hck (due now q).length 0 k ⟨0, 0⟩ (by omega) (by omega) (by omega) (fun h => absurd h (by omega))
      have := tord_l0 q kept (later now q) now hI 1000000 (by omega) L1 kept.length 0 k (by omega) (by omega) (by omega)
      exact this
    · rw [if_neg ht]
      simp only
      rw [if_neg (by decide)]
      have hno : now < 0 ∨ now > 1099511627776 := by
        unfold timeOk at ht
        simp at ht
        omega
      by_cases h0 : now < 0
      · rw [if_pos h0, if_pos (by simp)]
        simp
      · rw [if_neg h0, if_pos (by omega), if_pos (by simp)]
        simp
end Go.Proofs.Ytldpacphackdjaa.Print
