/- What the printed Change of the tariff's reference answers, and that the example of the chapter holds. Conditions: enough rounds. -/
import Derived.Test.YtldpacphackdjaaPTarRef2
import Derived.Test.YtldpacphackdjaaF20
namespace Go.Proofs.Ytldpacphackdjaa.Print
open Go.RowKit Go.Proofs.YtldpacphackdjaaW.PrintWords Go.Proofs.YtldpacphackdjaaW.PrintLast Go.Proofs.YtldpacphackdjaaW.PrintMore
set_option linter.unusedVariables false
set_option linter.unusedSimpArgs false

theorem rchange_both {l : List S42} (hg : good l = true) (x : Int) (hx : 0 ≤ x) (hx2 : x ≤ 1099511627776) :
    ∀ (c k d : Nat), (c = (2 - d) * 30 → 30 + c < k → d ≤ 2 → (∀ d' i' : Nat, d' < d → i' < l.length → x < startT l x d' i' → (rd_T42 l i').f1 = rateAt l (x % 86400)) → ∃ nx ok, crossbarref26_Change.l0 k x (x - x % 86400) (d : Int) l = some (nx, ok, 0) ∧ ChangeIs l x nx ok) ∧
      (∀ i : Nat, c + i + 5 = (2 - d) * 30 → 30 + c < k → d < 2 → i ≤ l.length → (∀ d' i' : Nat, d' < d → i' < l.length → x < startT l x d' i' → (rd_T42 l i').f1 = rateAt l (x % 86400)) → (∀ i' : Nat, i' < i → x < startT l x d i' → (rd_T42 l i').f1 = rateAt l (x % 86400)) →
        ∃ nx ok, crossbarref26_Change.l1 k x (x - x % 86400) (d : Int) (d : Int) l (l.length : Int) (i : Int) l = some (nx, ok, 0) ∧ ChangeIs l x nx ok) := by
  have hl := (good_len hg).2
  intro c
  induction c using Nat.strongRecOn with
  | _ c ih =>
  intro k d
  constructor
  · intro hc hk hd hI
    obtain ⟨k, rfl⟩ : ∃ m, k = m + 1 := ⟨k - 1, by omega⟩
    simp only [crossbarref26_Change.l0]
    by_cases h2 : d < 2
    · rw [if_pos (by omega)]
      have := (ih (c - 5) (by omega) k d).2 0 (by omega) (by omega) h2 (Nat.zero_le _) hI (fun i' h => by omega)
      exact this
    · rw [if_neg (by omega)]
      refine ⟨0, false, rfl, change_none hg x (fun i hi => hI 1 i (by omega) hi ?_)⟩
      have := good_at hg i hi
      unfold startT
      omega
  · intro i hc hk hd hi hI hJ
    obtain ⟨k, rfl⟩ : ∃ m, k = m + 1 := ⟨k - 1, by omega⟩
    simp only [crossbarref26_Change.l1]
    by_cases hlt : i < l.length
    · have g := good_at hg i hlt
      rw [if_pos (by omega), if_pos (by omega), if_pos (by omega)]
      have e : wrap64 (wrap64 (x - x % 86400 + wrap64 ((d : Int) * 86400)) + (rd_T42 l i).f0) = startT l x d i := by
        rw [show wrap64 ((d : Int) * 86400) = (d : Int) * 86400 by unfold wrap64; omega, show wrap64 (x - x % 86400 + (d : Int) * 86400) = x - x % 86400 + (d : Int) * 86400 by unfold wrap64; omega]
        unfold startT wrap64
        omega
      rw [e]
      clear e
      rw [show wrap64 ((i : Int) + 1) = ((i + 1 : Nat) : Int) by unfold wrap64; omega]
      by_cases hb : startT l x d i > x
      · rw [if_pos hb, rat_is hg x hx k (by omega), Option.bind_some]
        by_cases hr : (rd_T42 l i).f1 = rateAt l (x % 86400)
        · rw [if_pos hr]
          refine (ih (c - 1) (by omega) k d).2 (i + 1) (by omega) (by omega) hd (by omega) hI (fun i' h1 h2 => ?_)
          by_cases he : i' = i
          · subst he; exact hr
          · exact hJ i' (by omega) h2
        · rw [if_neg hr]
          refine ⟨_, true, rfl, change_found hg x hx d i hd hlt hb hr (fun d' i' h1 h2 h3 h4 => ?_)⟩
          have g' := good_at hg i' h2
          rcases Nat.lt_trichotomy d' d with h | h | h
          · exact hI d' i' h h2 h3
          · subst h
            refine hJ i' (Nat.lt_of_not_le fun hle => ?_) h3
            unfold startT at h4
            by_cases he : i' = i
            · subst he; omega
            · have := good_lt hg i i' h2 (by omega); omega
          · unfold startT at h4
            omega
      · rw [if_neg hb]
        refine (ih (c - 1) (by omega) k d).2 (i + 1) (by omega) (by omega) hd (by omega) hI (fun i' h1 h2 => ?_)
        by_cases he : i' = i
        · subst he; exact absurd h2 hb
        · exact hJ i' (by omega) h2
    · rw [if_neg (by omega), show wrap64 ((d : Int) + 1) = ((d + 1 : Nat) : Int) by unfold wrap64; omega]
      refine (ih ((2 - (d + 1)) * 30) (by omega) k (d + 1)).1 rfl (by omega) (by omega) (fun d' i' h1 h2 h3 => ?_)
      by_cases he : d' = d
      · subst he; exact hJ i' (by omega) h3
      · exact hI d' i' (by omega) h2 h3
theorem rchange_yes {l : List S42} (hg : good l = true) (x : Int) (hx : 0 ≤ x) (hx2 : x ≤ 1099511627776) (k : Nat) (hk : 100 ≤ k) : ∃ nx ok, crossbarref26_Change.f k l x = some (nx, ok, 0) ∧ ChangeIs l x nx ok := by
  unfold crossbarref26_Change.f
  rw [rcheck_is l k (by omega), if_pos hg, Option.bind_some, if_pos rfl, rtime_is, Option.bind_some, if_pos (decide_eq_true ⟨hx, hx2⟩), tmod_day x hx, show wrap64 (x - x % 86400) = x - x % 86400 by unfold wrap64; omega]
  exact (rchange_both hg x hx hx2 60 k 0).1 (by omega) (by omega) (by omega) (fun d' i' h => by omega)
theorem rchange_no (l : List S42) (x : Int) (k : Nat) (hk : 100 ≤ k) (h : ¬ (good l = true ∧ 0 ≤ x ∧ x ≤ 1099511627776)) : crossbarref26_Change.f k l x = some (0, false, if good l = true then 1 else 260) := by
  unfold crossbarref26_Change.f
  rw [rcheck_is l k (by omega), Option.bind_some]
  by_cases hg : good l = true
  · rw [if_pos hg, if_pos rfl, rtime_is, Option.bind_some, if_neg (by simpa using fun h1 => fun h2 => h ⟨hg, h1, h2⟩), if_pos hg]
  · rw [if_neg hg, if_neg (by omega), if_neg hg]

theorem sane26_at : crossbarlaw26_sane.f 60 = some true := by kernel_rfl
theorem sane26_is (k : Nat) (hk : 60 ≤ k) : crossbarlaw26_sane.f k = some true := by
  induction k with
  | zero => omega
  | succ k ih =>
    by_cases h : k + 1 = 60
    · rw [h]; exact sane26_at
    · exact crossbarlaw26_sane.mono k _ (ih (by omega))
theorem few_is (l : List S42) : crossbarref26_Few.f l = some (decide (l.length ≤ 100)) := by
  unfold crossbarref26_Few.f
  congr 1
  exact decide_eq_decide.2 (by omega)
end Go.Proofs.Ytldpacphackdjaa.Print
