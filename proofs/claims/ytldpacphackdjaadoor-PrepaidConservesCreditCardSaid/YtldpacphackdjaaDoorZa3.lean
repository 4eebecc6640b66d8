/- Parts of the proofs of layer 28's laws, joined in one file by a program of the session; each part begins with its own sentence. -/
import Derived.Test.YtldpacphackdjaaDoorZaHTrim
import Derived.Test.YtldpacphackdjaaDoorZaF29
import Derived.Test.YtldpacphackdjaaDoorZa2
import Derived.Test.YtldpacphackdjaaDoorZaSq
import Derived.Test.YtldpacphackdjaaDoorZa1
/- Plain definitions on accounts: what a valid account is, what it is worth, where a call's hold stands; and that the printed Check and Worth answer so. Conditions: enough rounds; a list that is no longer than a machine holds. -/
namespace Go.Proofs.YtldpacphackdjaaDoor.Print
open Go.RowKit Go.Proofs.YtldpacphackdjaaDoorW.PrintWords Go.Proofs.YtldpacphackdjaaDoorW.PrintLast Go.Proofs.YtldpacphackdjaaDoorW.PrintMore
set_option linter.unusedVariables false
set_option linter.unusedSimpArgs false

/-- A hold with a number above p, and all its numbers in range. -/
def holdB (p : Int) (h : S54) : Bool := decide (1 ≤ h.f0) && decide (p < h.f0) && (decide (h.f0 ≤ 1099511627776) && (decide (0 ≤ h.f1) && (decide (h.f1 ≤ 1099511627776) && (decide (0 ≤ h.f2) && decide (h.f2 ≤ 1099511627776)))))
def hFrom : Int → List S54 → Bool
  | _, [] => true
  | p, h :: t => holdB p h && hFrom h.f0 t
def sumU (l : List S54) : Int := (l.map (·.f1)).sum
/-- What Worth answers. -/
def worthW (b : Int) (l : List S54) : Int := l.foldl (fun n h => wrap64 (n + h.f1)) b
def numB (s : ByteArray) : Bool := decide (1 ≤ s.size) && (decide (s.size ≤ 15) && decide (Lib.trimS s.data.toList digits10.data.toList = []))
/-- What Check answers. -/
def pchk (s : ByteArray) (b : Int) (l : List S54) : Int := if l.length > 1024 then 2 else if numB s = true ∧ (0 ≤ b ∧ b ≤ 1099511627776) ∧ hFrom 0 l = true ∧ worthW b l ≤ 1099511627776 then 0 else 1
theorem pw1 {j : Nat} (h : j < 1000000000000) : wrap64 ((j : Int) + 1) = ((j + 1 : Nat) : Int) := by unfold wrap64; omega
theorem rdH_is (l : List S54) (j : Nat) (hj : j < l.length) : rd_T54 l (j : Int) = l[j] := by simp [rd_T54, List.getD_eq_getElem?_getD, List.getElem?_eq_getElem hj]
theorem dropH_at (l : List S54) (j : Nat) (hj : j < l.length) : l.drop j = rd_T54 l (j : Int) :: l.drop (j + 1) := by
  rw [rdH_is l j hj, List.drop_eq_getElem_cons hj]
theorem pwithin_is (n low : Int) : prepaid_within.f n low = some (decide (low ≤ n ∧ n ≤ 1099511627776)) := by
  unfold prepaid_within.f
  by_cases h : n ≥ low
  · rw [if_pos h]; simp [show low ≤ n from h]
  · rw [if_neg h]; simp [show ¬ low ≤ n from h]
theorem worth_l0 (l : List S54) (hl : l.length ≤ 1000000000) : ∀ (d j k : Nat) (n : Int), l.length - j = d → d + 1 ≤ k → prepaid_Worth.l0 k n l (l.length : Int) (j : Int) = some (worthW n (l.drop j)) := by
  intro d
  induction d with
  | zero =>
    intro j k n hd hk
    obtain ⟨k, rfl⟩ : ∃ i, k = i + 1 := ⟨k - 1, by omega⟩
    simp only [prepaid_Worth.l0]
    rw [if_neg (by omega), List.drop_of_length_le (by omega)]
    rfl
  | succ d ih =>
    intro j k n hd hk
    obtain ⟨k, rfl⟩ : ∃ i, k = i + 1 := ⟨k - 1, by omega⟩
    have hj : j < l.length := by omega
    simp only [prepaid_Worth.l0]
    rw [if_pos (by omega), if_pos (by omega), if_pos (by omega), pw1 (by omega), dropH_at l j hj, ih (j + 1) k _ (by omega) (by omega)]
    rfl
theorem worth_is (s : ByteArray) (b : Int) (l : List S54) (hl : l.length ≤ 1000000000) (k : Nat) (hk : l.length + 1 ≤ k) : prepaid_Worth.f k s b l = some (worthW b l) := by
  unfold prepaid_Worth.f
  have := worth_l0 l hl l.length 0 k b (by omega) (by omega)
  rw [show ((0 : Nat) : Int) = 0 from rfl] at this
  rw [this]
  rfl
def prevH (l : List S54) (j : Nat) : Int := if j = 0 then 0 else (rd_T54 l ((j - 1 : Nat) : Int)).f0
theorem pcheck_l0 (s : ByteArray) (b : Int) (l : List S54) (hl : l.length ≤ 1024) : ∀ (d j k : Nat), l.length - j = d → d + 1100 ≤ k → prepaid_Check.l0 k l (l.length : Int) (j : Int) s b l = some (if hFrom (prevH l j) (l.drop j) = true ∧ worthW b l ≤ 1099511627776 then 0 else 1) := by
  intro d
  induction d with
  | zero =>
    intro j k hd hk
    obtain ⟨k, rfl⟩ : ∃ i, k = i + 1 := ⟨k - 1, by omega⟩
    simp only [prepaid_Check.l0]
    rw [if_neg (by omega), worth_is s b l (by omega) k (by omega), Option.bind_some, List.drop_of_length_le (by omega)]
    by_cases h : worthW b l > 1099511627776
    · rw [if_pos h, if_neg (fun h2 => by omega)]
    · rw [if_neg h, if_pos ⟨rfl, by omega⟩]
  | succ d ih =>
    intro j k hd hk
    obtain ⟨k, rfl⟩ : ∃ i, k = i + 1 := ⟨k - 1, by omega⟩
    have hj : j < l.length := by omega
    have hn := ih (j + 1) k (by omega) (by omega)
    have hp : prevH l (j + 1) = (rd_T54 l (j : Int)).f0 := by unfold prevH; rw [if_neg (by omega), Nat.add_sub_cancel]
    rw [hp] at hn
    simp only [prepaid_Check.l0]
    rw [if_pos (by omega), if_pos (by omega), if_pos (by omega), pwithin_is, Option.bind_some, pwithin_is, pwithin_is, pw1 (by omega), hn, dropH_at l j hj]
    simp only [Option.bind_some, hFrom]
    have hx : ∀ z : S54, holdB (prevH l j) z = true ↔ ((1 ≤ z.f0 ∧ z.f0 ≤ 1099511627776) ∧ prevH l j < z.f0 ∧ (0 ≤ z.f1 ∧ z.f1 ≤ 1099511627776) ∧ (0 ≤ z.f2 ∧ z.f2 ≤ 1099511627776)) := fun z => by
      unfold holdB
      simp only [Bool.and_eq_true, decide_eq_true_eq]
      omega
    have hp0 : 0 < j → prevH l j = (rd_T54 l ((j - 1 : Nat) : Int)).f0 := fun h => by unfold prevH; rw [if_neg (by omega)]
    have hp1 : j = 0 → prevH l j = 0 := fun h => by unfold prevH; rw [if_pos h]
    have no : ¬ holdB (prevH l j) (rd_T54 l (j : Int)) = true → (some 1 : Option Int) = some (if (holdB (prevH l j) (rd_T54 l (j : Int)) && hFrom (rd_T54 l (j : Int)).f0 (l.drop (j + 1))) = true ∧ worthW b l ≤ 1099511627776 then 0 else 1) := fun h => by
      rw [Bool.not_eq_true] at h
      rw [h, Bool.false_and, if_neg (by simp)]
    have hz := hx (rd_T54 l (j : Int))
    by_cases c1 : 1 ≤ (rd_T54 l (j : Int)).f0 ∧ (rd_T54 l (j : Int)).f0 ≤ 1099511627776
    · rw [if_pos (decide_eq_true c1)]
      have tail : prevH l j < (rd_T54 l (j : Int)).f0 → (if decide (0 ≤ (rd_T54 l (j : Int)).f1 ∧ (rd_T54 l (j : Int)).f1 ≤ 1099511627776) = true then (if decide (0 ≤ (rd_T54 l (j : Int)).f2 ∧ (rd_T54 l (j : Int)).f2 ≤ 1099511627776) = true then some (if hFrom (rd_T54 l (j : Int)).f0 (l.drop (j + 1)) = true ∧ worthW b l ≤ 1099511627776 then (0 : Int) else 1) else some 1) else some 1) = some (if (holdB (prevH l j) (rd_T54 l (j : Int)) && hFrom (rd_T54 l (j : Int)).f0 (l.drop (j + 1))) = true ∧ worthW b l ≤ 1099511627776 then 0 else 1) := fun hp => by
        by_cases c3 : 0 ≤ (rd_T54 l (j : Int)).f1 ∧ (rd_T54 l (j : Int)).f1 ≤ 1099511627776
        · rw [if_pos (decide_eq_true c3)]
          by_cases c4 : 0 ≤ (rd_T54 l (j : Int)).f2 ∧ (rd_T54 l (j : Int)).f2 ≤ 1099511627776
          · rw [if_pos (decide_eq_true c4), hz.2 ⟨c1, hp, c3, c4⟩, Bool.true_and]
          · rw [if_neg (by simpa using c4)]
            exact no (fun h => c4 (hz.1 h).2.2.2)
        · rw [if_neg (by simpa using c3)]
          exact no (fun h => c3 (hz.1 h).2.2.1)
      by_cases h0 : (j : Int) > 0
      · rw [if_pos h0, show wrap64 ((j : Int) - 1) = ((j - 1 : Nat) : Int) by unfold wrap64; omega, if_pos (by omega), if_pos (by omega)]
        by_cases c2 : (rd_T54 l ((j - 1 : Nat) : Int)).f0 ≥ (rd_T54 l (j : Int)).f0
        · rw [if_pos c2]
          exact no (fun h => by have := (hz.1 h).2.1; rw [hp0 (by omega)] at this; omega)
        · rw [if_neg c2]
          exact tail (by rw [hp0 (by omega)]; omega)
      · rw [if_neg h0]
        exact tail (by rw [hp1 (by omega)]; omega)
    · rw [if_neg (by simpa using c1)]
      exact no (fun h => c1 (hz.1 h).1)
theorem pcheck_is (s : ByteArray) (b : Int) (l : List S54) (k : Nat) (hk : 3000 ≤ k) : prepaid_Check.f k s b l = some (pchk s b l) := by
  obtain ⟨k, rfl⟩ : ∃ i, k = i + 1 := ⟨k - 1, by omega⟩
  unfold prepaid_Check.f pchk
  by_cases hl : l.length > 1024
  · rw [if_pos (by omega), if_pos hl]
  · rw [if_neg (by omega), if_neg hl]
    have j1 : prepaid_Check.j0 (k + 1) true s b l = some 1 := by simp only [prepaid_Check.j0]; rw [if_pos trivial]
    have hsz : s.size = s.data.toList.length := by rw [Array.length_toList]; rfl
    have hnil : s.toList = [] ↔ s.size = 0 := by
      rw [Lib.toList_data, hsz]
      exact List.length_eq_zero_iff.symm
    by_cases h0 : s.size = 0
    · rw [if_pos (hnil.2 h0), j1, if_neg (fun h => by have := h.1; unfold numB at this; simp at this; omega)]
    · rw [if_neg (fun h => h0 (hnil.1 h))]
      by_cases h15 : (s.size : Int) > 15
      · rw [if_pos h15, j1, if_neg (fun h => by have := h.1; unfold numB at this; simp at this; omega)]
      · rw [if_neg h15]
        have ht : strings_Trim.f s ⟨#[48, 49, 50, 51, 52, 53, 54, 55, 56, 57]⟩ = some ⟨(Lib.trimS s.data.toList digits10.data.toList).toArray⟩ := by
          unfold strings_Trim.f
          rw [if_pos ⟨by omega, rfl⟩]
        rw [ht, Option.bind_some]
        have htl : (⟨(Lib.trimS s.data.toList digits10.data.toList).toArray⟩ : ByteArray).toList = Lib.trimS s.data.toList digits10.data.toList := by rw [Lib.toList_data]
        rw [htl]
        by_cases hn : Lib.trimS s.data.toList digits10.data.toList = []
        · have hnum : numB s = true := by unfold numB; simp [hn]; omega
          rw [if_pos hn, pwithin_is, Option.bind_some, hnum]
          by_cases hb : 0 ≤ b ∧ b ≤ 1099511627776
          · rw [decide_eq_true hb]
            simp only [prepaid_Check.j0]
            have := pcheck_l0 s b l (by omega) l.length 0 k (by omega) (by omega)
            rw [show ((0 : Nat) : Int) = 0 from rfl] at this
            rw [if_neg (by simp), this]
            have e : prevH l 0 = 0 := by unfold prevH; rw [if_pos rfl]
            rw [e, List.drop_zero]
            congr 1
            by_cases hh : hFrom 0 l = true ∧ worthW b l ≤ 1099511627776
            · rw [if_pos hh, if_pos ⟨trivial, hb, hh.1, hh.2⟩]
            · rw [if_neg hh, if_neg (fun h => hh ⟨h.2.2.1, h.2.2.2⟩)]
          · rw [decide_eq_false hb, Bool.not_false, j1, if_neg (fun h => hb h.2.1)]
        · rw [if_neg hn, j1, if_neg (fun h => by have := h.1; unfold numB at this; simp [hn] at this)]
end Go.Proofs.YtldpacphackdjaaDoor.Print
/- That prepaid.begin makes an account at work out of a valid one, with a row of holds of its own, and says why another one is none; and that (*account).hold finds a call's place. -/
namespace Go.Proofs.YtldpacphackdjaaDoor.Print
open Go.RowKit Go.Proofs.YtldpacphackdjaaDoorW.PrintWords Go.Proofs.YtldpacphackdjaaDoorW.PrintLast Go.Proofs.YtldpacphackdjaaDoorW.PrintMore
set_option linter.unusedVariables false
set_option linter.unusedSimpArgs false
theorem row_own {w : World} {base : Nat} {ok : Nat → Prop} {v : Value} {xs : List S54} (h : Kd.R k54 54 w base ok v xs) : Kd.R k54 54 w base (fun k => v.ownBlock = some k) v xs :=
  ⟨fun k hk => hk, h.2.imp_ (fun x cs hm => by have e := k54_openM hm; subst e; exact k54_mkM _ _ _ x)⟩
theorem row_any {w : World} {base : Nat} {ok : Nat → Prop} {v : Value} {xs : List S54} (h : Kd.R k54 54 w base ok v xs) : Kd.R k54 54 w base (fun _ => True) v xs := Kd.R_mono h (fun _ _ => trivial)
theorem pchk_len {s : ByteArray} {b : Int} {l : List S54} (h : pchk s b l = 0) : l.length ≤ 1024 := by
  unfold pchk at h
  split at h
  · omega
  · omega
set_option maxHeartbeats 4000000 in
set_option maxRecDepth 100000 in
theorem begin_ok (A0 : Option Addr) (c0 : Nat) (l : List S54) (s : ByteArray) (b : Int) (w : World) (hr : Kd.C k54 w A0 l.length l) (hc : l.length ≤ c0) (h : pchk s b l = 0) :
    Calls Tryd.prog 37 #[.agg #[.string s, .int .i64 b, .slice A0 l.length c0]] w fun e w' => ∃ g Ao co, e = .returned (.tuple #[.pointer (some ⟨g, 0, none⟩), .int .i64 0]) ∧ w.heap.size ≤ g ∧ w'.heap[g]? = some (.cells #[.string s, .int .i64 b, .slice Ao l.length co] 82 (0, 0)) ∧
      Kd.R k54 54 w' w.heap.size (fun _ => True) (.slice Ao l.length co) l ∧ Below w.heap.size w w' := by
  have hu31 := Tryd.underlying31
  have hu82 := Tryd.underlying82
  have HR := Aside0.mk hr
  have HC := Aside0.mk hc
  have LN := Aside0.mk (pchk_len h)
  have A3 := Aside0.mk ((pcheck_is s b l 3000 (Nat.le_refl _)).trans (congrArg some h))
  have HB := Aside0.mk (Below.refl w.heap.size w)
  clear hr hc h
  go_enter Tryd.func37, Tryd.ntmps37
  go_wp2_with (first | ((with_reducible refine gate_dst (N := 1) rfl ?_); refine box_event ?hg (N := 1) ?hd (cs := #[.string s, .int .i64 b, .slice A0 l.length c0]) (t := 31) ?hr ?_; (case hd => rfl); (case hg => rfl); (case hr => first | (go_simp; done) | (go_simp; rfl)); intro gq hg w1 hbox hb; have n0_ := ls0 HB hb; have BKgq := Aside0.mk hbox; have GEgq := lz0 HB hg; clear HB; have HB := n0_; clear n0_ hb hbox hg; have hczgq0 := bc BKgq 0; have hfzgq0 := blk_frozen BKgq.out 0; have hczgq1 := bc BKgq 1; have hfzgq1 := blk_frozen BKgq.out 1; have hczgq2 := bc BKgq 2; have hfzgq2 := blk_frozen BKgq.out 2) | ((with_reducible refine gate_callee (f := 29) rfl ?_); refine goesL_ (some 6) rfl rfl Tryd.func29 (by kernel_rfl) rfl #[.agg #[.string s, .int .i64 b, .slice A0 l.length c0]] rfl (by (try simp only [List.map_toArray, List.map_cons, List.map_nil]); first | done | rfl | (simp only [List.length_drop, List.length_take]; rfl)) ?_; (with_reducible refine (prepaid_Check.calls 3000 s b _ _ l _ _ ?side1 ?side2 A3.out).mono ?_); (case side1 => exact Kd.C_below HR.out HB.out); (case side2 => exact HC.out); rintro e w2 ⟨rfl, hb⟩; refine ⟨_, rfl, ?_⟩; have m0_ := kl BKgq hb; have n0_ := ls1 HB GEgq hb; clear BKgq; have BKgq := m0_; clear m0_; clear HB; have HB := n0_; clear n0_ hb; clear hczgq0 hfzgq0 hczgq1 hfzgq1 hczgq2 hfzgq2; have hczgq0 := bc BKgq 0; have hfzgq0 := blk_frozen BKgq.out 0; have hczgq1 := bc BKgq 1; have hfzgq1 := blk_frozen BKgq.out 1; have hczgq2 := bc BKgq 2; have hfzgq2 := blk_frozen BKgq.out 2) | ((with_reducible refine gate_callee (f := 64) rfl ?_); refine goesL_ (some 12) rfl rfl Tryd.func64 (by kernel_rfl) rfl #[.slice A0 l.length c0] rfl (by (try simp only [List.map_toArray, List.map_cons, List.map_nil]); first | done | rfl | (simp only [List.length_drop, List.length_take]; rfl)) ?_; (with_reducible refine (clone_hold A0 c0 l _ (Kd.C_below HR.out HB.out) HC.out LN.out).mono ?_); rintro e w3 ⟨v0, rfl, hy, hb⟩; refine ⟨_, rfl, ?_⟩; have m0_ := kl BKgq hb; have n0_ := ls1 HB GEgq hb; have HO := Aside0.mk (Kd.R_lower hy (below_size (lb1 HB GEgq))); clear BKgq; have BKgq := m0_; clear m0_; clear HB; have HB := n0_; clear n0_ hb; clear hy; obtain ⟨Ao, co, eo⟩ := Kd.R_slice HO.out; subst eo; clear hczgq0 hfzgq0 hczgq1 hfzgq1 hczgq2 hfzgq2; have hczgq0 := bc BKgq 0; have hfzgq0 := blk_frozen BKgq.out 0; have hczgq1 := bc BKgq 1; have hfzgq1 := blk_frozen BKgq.out 1; have hczgq2 := bc BKgq 2; have hfzgq2 := blk_frozen BKgq.out 2) | ((with_reducible refine gate_store (t := 29) (p := 13) rfl ?_); refine store_event (t := 29) (p := 13) (v := .tmp 12) (w1 := (w3).setCell ⟨gq, 2, none⟩ (.slice Ao l.length co)) ?hg ?ho ?hn ?hr ?_; (case ho => rfl); (case hg => rfl); (case hn => rfl); (case hr => first | (go_simp; done) | (go_simp; rfl)); intro w4 hw_; have m0_ := Aside0.mk (show w4.heap[gq]? = some (.cells #[.string s, .int .i64 b, .slice Ao l.length co] 31 (0, 0)) from by rw [hw_]; exact (blk_set (BKgq.out) 2 _)); have n0_ := Aside0.mk (show Below w.heap.size w w4 from by rw [hw_]; exact (below_set (j := 2) (HB.out) GEgq.out)); have rHO_ := Aside0.mk (show Kd.R _ _ w4 _ (fun _ => True) _ _ from by rw [hw_]; exact row_any (Kd.R_far (p := ⟨gq, 2, none⟩) (row_own HO.out) (fun k_ hk_ e_ => (Ne.symm (Kd.R_ne HO.out BKgq.out (by decide))) (by rw [hk_]; exact congrArg some e_)) _)); clear BKgq; have BKgq := m0_; clear m0_; clear HB; have HB := n0_; clear HO; have HO := rHO_; clear rHO_; clear n0_ hw_; clear hczgq0 hfzgq0 hczgq1 hfzgq1 hczgq2 hfzgq2; have hczgq0 := bc BKgq 0; have hfzgq0 := blk_frozen BKgq.out 0; have hczgq1 := bc BKgq 1; have hfzgq1 := blk_frozen BKgq.out 1; have hczgq2 := bc BKgq 2; have hfzgq2 := blk_frozen BKgq.out 2) | ((with_reducible refine gate_dst (N := 16) rfl ?_); refine box_event ?hg (N := 16) ?hd (cs := #[.string s, .int .i64 b, .slice Ao l.length co]) (t := 82) ?hr ?_; (case hd => rfl); (case hg => rfl); (case hr => first | (go_simp; done) | (go_simp; rfl)); intro ga hg w5 hbox hb; have NEgq_ga := Aside0.mk (ne_of_old (g := gq) (g' := ga) (o := .cells #[.string s, .int .i64 b, .slice Ao l.length co] 31 (0, 0)) (kb BKgq) (by rw [hg])); have NOHO_ga := Aside0.mk (show (Value.slice Ao l.length co).ownBlock ≠ some ga from fun e_ => by have e1_ := Kd.R_lt HO.out ga e_; have e2_ := (show ga = _ from hg); omega); have m0_ := kl BKgq hb; have rHO_ := Aside0.mk (Kd.R_below HO.out hb); have n0_ := ls1 HB GEgq hb; have BKga := Aside0.mk hbox; have GEga := lz1 HB GEgq hg; clear BKgq; have BKgq := m0_; clear m0_; clear HB; have HB := n0_; clear HO; have HO := rHO_; clear rHO_; clear n0_ hb hbox hg; clear hczgq0 hfzgq0 hczgq1 hfzgq1 hczgq2 hfzgq2))
  go_ret2
  exact ⟨ga, Ao, co, rfl, GEga.out, BKga.out, HO.out, HB.out⟩
set_option maxHeartbeats 4000000 in
set_option maxRecDepth 100000 in
theorem begin_no (A0 : Option Addr) (c0 : Nat) (l : List S54) (s : ByteArray) (b c : Int) (w : World) (hr : Kd.C k54 w A0 l.length l) (hc : l.length ≤ c0) (h : pchk s b l = c) (hne : c ≠ 0) :
    Calls Tryd.prog 37 #[.agg #[.string s, .int .i64 b, .slice A0 l.length c0]] w fun e w' => e = .returned (.tuple #[.pointer none, .int .i64 c]) ∧ Below w.heap.size w w' := by
  have hu31 := Tryd.underlying31
  have hu82 := Tryd.underlying82
  have HR := Aside0.mk hr
  have HC := Aside0.mk hc
  have A3 := Aside0.mk ((pcheck_is s b l 3000 (Nat.le_refl _)).trans (congrArg some h))
  have HB := Aside0.mk (Below.refl w.heap.size w)
  have c4b0 : (c == 0) = false := beq_eq_false_iff_ne.mpr hne
  have c4b1 : (c != 0) = true := bne_iff_ne.mpr hne
  clear hr hc h hne
  go_enter Tryd.func37, Tryd.ntmps37
  go_wp2_with (first | ((with_reducible refine gate_dst (N := 1) rfl ?_); refine box_event ?hg (N := 1) ?hd (cs := #[.string s, .int .i64 b, .slice A0 l.length c0]) (t := 31) ?hr ?_; (case hd => rfl); (case hg => rfl); (case hr => first | (go_simp; done) | (go_simp; rfl)); intro gq hg w1 hbox hb; have n0_ := ls0 HB hb; have BKgq := Aside0.mk hbox; have GEgq := lz0 HB hg; clear HB; have HB := n0_; clear n0_ hb hbox hg; have hczgq0 := bc BKgq 0; have hfzgq0 := blk_frozen BKgq.out 0; have hczgq1 := bc BKgq 1; have hfzgq1 := blk_frozen BKgq.out 1; have hczgq2 := bc BKgq 2; have hfzgq2 := blk_frozen BKgq.out 2) | ((with_reducible refine gate_callee (f := 29) rfl ?_); refine goesL_ (some 6) rfl rfl Tryd.func29 (by kernel_rfl) rfl #[.agg #[.string s, .int .i64 b, .slice A0 l.length c0]] rfl (by (try simp only [List.map_toArray, List.map_cons, List.map_nil]); first | done | rfl | (simp only [List.length_drop, List.length_take]; rfl)) ?_; (with_reducible refine (prepaid_Check.calls 3000 s b _ _ l _ _ ?side1 ?side2 A3.out).mono ?_); (case side1 => exact Kd.C_below HR.out HB.out); (case side2 => exact HC.out); rintro e w2 ⟨rfl, hb⟩; refine ⟨_, rfl, ?_⟩; have m0_ := kl BKgq hb; have n0_ := ls1 HB GEgq hb; clear BKgq; have BKgq := m0_; clear m0_; clear HB; have HB := n0_; clear n0_ hb; clear hczgq0 hfzgq0 hczgq1 hfzgq1 hczgq2 hfzgq2))
  go_ret2
  exact ⟨rfl, HB.out⟩
/-- The place of a call's hold. -/
def placeH (ref : Int) (l : List S54) : Nat := (l.filter fun x => decide (x.f0 < ref)).length
theorem placeH_le (ref : Int) (l : List S54) : placeH ref l ≤ l.length := List.length_filter_le ..
theorem hFrom_above : ∀ (l : List S54) (p : Int), hFrom p l = true → ∀ x ∈ l, p < x.f0
  | [], _, _, x, hx => by cases hx
  | a :: t, p, h, x, hx => by
    simp only [hFrom, Bool.and_eq_true] at h
    have ha : p < a.f0 := by
      have h1 := h.1
      unfold holdB at h1
      simp only [Bool.and_eq_true, decide_eq_true_eq] at h1
      omega
    rcases List.mem_cons.1 hx with rfl | hx
    · exact ha
    · have := hFrom_above t a.f0 h.2 x hx
      omega
theorem placeH_at (ref : Int) : ∀ (l : List S54) (p : Int), hFrom p l = true → ∀ j : Nat, j < l.length → ((rd_T54 l j).f0 < ref ↔ j < placeH ref l)
  | [], _, _, j, hj => absurd hj (by simp)
  | a :: t, p, h, j, hj => by
    have hab := fun x hx => hFrom_above t a.f0 (by simp only [hFrom, Bool.and_eq_true] at h; exact h.2) x hx
    have h2 : hFrom a.f0 t = true := by simp only [hFrom, Bool.and_eq_true] at h; exact h.2
    by_cases ha : a.f0 < ref
    · have e : placeH ref (a :: t) = placeH ref t + 1 := by simp [placeH, List.filter_cons, ha]
      rw [e]
      cases j with
      | zero => simp [rd_T54, ha]
      | succ j =>
        have := placeH_at ref t a.f0 h2 j (by simpa using hj)
        have e2 : rd_T54 (a :: t) ((j + 1 : Nat) : Int) = rd_T54 t (j : Int) := by simp [rd_T54, show ((j : Int) + 1).toNat = j + 1 by omega]
        rw [e2, this]
        omega
    · have e1 : t.filter (fun x => decide (x.f0 < ref)) = [] := List.filter_eq_nil_iff.2 (fun x hx => by have := hab x hx; simp; omega)
      have e : placeH ref (a :: t) = 0 := by simp [placeH, List.filter_cons, ha, e1]
      rw [e]
      have hm : rd_T54 (a :: t) (j : Int) ∈ a :: t := by rw [rdH_is _ j hj]; exact List.getElem_mem hj
      constructor
      · intro hlt
        rcases List.mem_cons.1 hm with e | hm
        · rw [e] at hlt; omega
        · have := hab _ hm; omega
      · intro h; omega
set_option maxHeartbeats 4000000 in
set_option maxRecDepth 100000 in
theorem hold_calls (g : Nat) (c0 c1 : Value) (Ao : Option Addr) (co : Nat) (l : List S54) (ref : Int) (w : World) (base : Nat) (hb : w.heap[g]? = some (.cells #[c0, c1, .slice Ao l.length co] 82 (0, 0))) (hr : Kd.R k54 54 w base (fun _ => True) (.slice Ao l.length co) l) (hl : l.length ≤ 1024) (hf : hFrom 0 l = true) {i : Nat} (hi : placeH ref l = i) {f : Bool} (hff : (decide (i < l.length) && decide ((rd_T54 l i).f0 = ref)) = f) :
    Calls Tryd.prog 39 #[.pointer (some ⟨g, 0, none⟩), .int .i64 ref] w fun e w' => e = .returned (.tuple #[.int .i64 (i : Int), .bool f]) ∧ Below w.heap.size w w' := by
  have hu31 := Tryd.underlying31
  have hu82 := Tryd.underlying82
  have hc2 : w.cell? ⟨g, 2, none⟩ = some (.slice Ao l.length co) := (blk_cell hb 2).trans rfl
  have BS := Aside0.mk (bsearch_hold Ao co l ref i w (Kd.R_reads' hr).2.2 (by rw [← hi]; exact placeH_le _ _) hl (fun j hj => by rw [← hi]; exact placeH_at ref l 0 hf j hj))
  rw [hff] at BS
  clear hb hr hl hf hi hff
  go_enter Tryd.func39, Tryd.ntmps39
  go_wp2_with ((with_reducible refine gate_callee (f := 65) rfl ?_); refine goesL_ (some 12) rfl rfl Tryd.func65 (by kernel_rfl) rfl #[.slice Ao l.length co, .int .i64 ref, .func (.func 66) #[] #[]] rfl (by (try simp only [List.map_toArray, List.map_cons, List.map_nil]); first | done | rfl) ?_; (with_reducible refine (BS.out).mono ?_); rintro e w1 ⟨rfl, hb⟩; refine ⟨_, rfl, ?_⟩; have END := Aside0.mk hb; clear hb hc2)
  go_ret2
  exact ⟨rfl, END.out⟩
end Go.Proofs.YtldpacphackdjaaDoor.Print
/- That prepaid.Deposit answers what its Lean function answers. -/
namespace Go.Proofs.YtldpacphackdjaaDoor.Print
open Go.RowKit Go.Proofs.YtldpacphackdjaaDoorW.PrintWords Go.Proofs.YtldpacphackdjaaDoorW.PrintLast Go.Proofs.YtldpacphackdjaaDoorW.PrintMore
set_option linter.unusedVariables false
set_option linter.unusedSimpArgs false
def prepaid_Deposit.f (s : ByteArray) (b : Int) (l : List S54) (a1 : Int) : Option (ByteArray × Int × List S54 × Int) :=
  if pchk s b l = 0 then (if 0 ≤ a1 ∧ a1 ≤ 1099511627776 then (if worthW b l + a1 > 1099511627776 then some (⟨#[]⟩, 0, [], 2) else some (s, b + a1, l, 0)) else some (⟨#[]⟩, 0, [], 1)) else some (⟨#[]⟩, 0, [], pchk s b l)
theorem pwithin_below (n low : Int) {r : Bool} (h : decide (low ≤ n ∧ n ≤ 1099511627776) = r) (w : World) : Calls Tryd.prog 38 #[.int .i64 n, .int .i64 low] w fun e w' => e = .returned (.bool r) ∧ Below w.heap.size w w' :=
  (prepaid_within.calls n low r w ((pwithin_is n low).trans (congrArg some h))).mono (by
    rintro e w' ⟨rfl, ⟨nd, rfl⟩⟩
    exact ⟨rfl, pw_below_drewN (Below.refl _ _) nd⟩)
theorem sumU_bd : ∀ (l : List S54) (p : Int), hFrom p l = true → 0 ≤ sumU l ∧ sumU l ≤ l.length * 1099511627776
  | [], _, _ => by simp [sumU]
  | a :: t, p, h => by
    simp only [hFrom, Bool.and_eq_true] at h
    have ih := sumU_bd t a.f0 h.2
    have h1 := h.1
    unfold holdB at h1
    simp only [Bool.and_eq_true, decide_eq_true_eq] at h1
    have e : sumU (a :: t) = a.f1 + sumU t := by simp [sumU]
    rw [e, List.length_cons]
    omega
theorem worthW_is : ∀ (l : List S54) (p b : Int), hFrom p l = true → l.length ≤ 2000 → 0 ≤ b → b + l.length * 1099511627776 ≤ 4611686018427387904 → worthW b l = b + sumU l
  | [], _, b, _, _, _, _ => by simp [worthW, sumU]
  | a :: t, p, b, h, hl, h0, h1 => by
    simp only [hFrom, Bool.and_eq_true] at h
    have h2 := h.1
    unfold holdB at h2
    simp only [Bool.and_eq_true, decide_eq_true_eq] at h2
    rw [List.length_cons] at h1 hl
    have ew : wrap64 (b + a.f1) = b + a.f1 := by unfold wrap64; omega
    have ih := worthW_is t a.f0 (b + a.f1) h.2 (by omega) (by omega) (by omega)
    have e : sumU (a :: t) = a.f1 + sumU t := by simp [sumU]
    have e2 : worthW b (a :: t) = worthW (wrap64 (b + a.f1)) t := rfl
    rw [e2, ew, ih, e]
    omega
structure Acc (s : ByteArray) (b : Int) (l : List S54) : Prop where
  len : l.length ≤ 1024
  num : numB s = true
  bal : 0 ≤ b ∧ b ≤ 1099511627776
  holds : hFrom 0 l = true
  sum : b + sumU l ≤ 1099511627776
theorem acc_worth {b : Int} {l : List S54} (hl : l.length ≤ 1024) (hb : 0 ≤ b ∧ b ≤ 1099511627776) (hh : hFrom 0 l = true) : worthW b l = b + sumU l := worthW_is l 0 b hh (by omega) hb.1 (by omega)
theorem pchk_zero (s : ByteArray) (b : Int) (l : List S54) : pchk s b l = 0 ↔ Acc s b l := by
  unfold pchk
  constructor
  · intro h
    split at h
    · omega
    · split at h
      · rename_i h1 h2
        have := acc_worth (by omega) h2.2.1 h2.2.2.1
        exact ⟨by omega, h2.1, h2.2.1, h2.2.2.1, by rw [← this]; exact h2.2.2.2⟩
      · omega
  · intro h
    rw [if_neg (by have := h.len; omega), if_pos ⟨h.num, h.bal, h.holds, by rw [acc_worth h.len h.bal h.holds]; exact h.sum⟩]
set_option maxHeartbeats 4000000 in
set_option maxRecDepth 100000 in
theorem prepaid_Deposit.calls (s : ByteArray) (b : Int) (A0 : Option Addr) (c0 : Nat) (l : List S54) (a1 : Int) (r1 : ByteArray) (r2 : Int) (r3 : List S54) (r4 : Int) (w : World) (hr : Kd.C k54 w A0 l.length l) (hc : l.length ≤ c0) (h : prepaid_Deposit.f s b l a1 = some (r1, r2, r3, r4)) :
    Calls Tryd.prog 27 #[.agg #[.string s, .int .i64 b, .slice A0 l.length c0], .int .i64 a1] w fun e w' => ∃ v0_ : Value, e = .returned (.tuple #[.agg #[.string r1, .int .i64 r2, v0_], .int .i64 r4]) ∧ Kd.R k54 54 w' w.heap.size (fun _ => True) v0_ r3 ∧ Below w.heap.size w w' := by
  have hu31 := Tryd.underlying31
  have hu82 := Tryd.underlying82
  have HR := Aside0.mk hr
  have HC := Aside0.mk hc
  have HB := Aside0.mk (Below.refl w.heap.size w)
  clear hr hc
  unfold prepaid_Deposit.f at h
  by_cases hp : pchk s b l = 0
  · rw [if_pos hp] at h
    have AC := Aside0.mk ((pchk_zero s b l).1 hp)
    have HP := Aside0.mk hp
    clear hp
    by_cases h1 : 0 ≤ a1 ∧ a1 ≤ 1099511627776
    · rw [if_pos h1] at h
      have WI := Aside0.mk (decide_eq_true h1)
      have WO := Aside0.mk (worth_is s b l (by have := AC.out.len; omega) 3000 (by have := AC.out.len; omega))
      have hw := acc_worth AC.out.len AC.out.bal AC.out.holds
      have hs := sumU_bd l 0 AC.out.holds
      have hb0 := AC.out.bal
      have hsum := AC.out.sum
      have hW0 : 0 ≤ worthW b l := by omega
      have hW1 : worthW b l ≤ 1099511627776 := by omega
      clear hs hw hsum
      generalize worthW b l = W at h WO hW0 hW1
      obtain ⟨h1a, h1b⟩ := h1
      obtain ⟨hb1, hb2⟩ := hb0
      by_cases h2 : W + a1 > 1099511627776
      · rw [if_pos h2] at h
        simp only [Option.some.injEq, Prod.mk.injEq] at h
        obtain ⟨rfl, rfl, rfl, rfl⟩ := h
        have h2' : (1099511627776 : Int) < W + a1 := h2
        clear h2
        go_enter Tryd.func27, Tryd.ntmps27
        go_wp2_with (first | ((with_reducible refine gate_dst (N := 2) rfl ?_); refine box_event ?hg (N := 2) ?hd (cs := #[.string s, .int .i64 b, .slice A0 l.length c0]) (t := 31) ?hr ?_; (case hd => rfl); (case hg => rfl); (case hr => first | (go_simp; done) | (go_simp; rfl)); intro gq hg w1 hbox hb; have n0_ := ls0 HB hb; have BKgq := Aside0.mk hbox; have GEgq := lz0 HB hg; clear HB; have HB := n0_; clear n0_ hb hbox hg) | ((with_reducible refine gate_dst (N := 4) rfl ?_); refine box_event ?hg (N := 4) ?hd (cs := #[.string ⟨#[]⟩, .int .i64 0, .slice none 0 0]) (t := 31) ?hr ?_; (case hd => rfl); (case hg => rfl); (case hr => first | (go_simp; done) | (go_simp; rfl)); intro gr hg w2 hbox hb; have NEgq_gr := Aside0.mk (ne_of_old (g := gq) (g' := gr) (o := .cells #[.string s, .int .i64 b, .slice A0 l.length c0] 31 (0, 0)) (kb BKgq) (by rw [hg])); have m0_ := kl BKgq hb; have n0_ := ls1 HB GEgq hb; have BKgr := Aside0.mk hbox; have GEgr := lz1 HB GEgq hg; clear BKgq; have BKgq := m0_; clear m0_; clear HB; have HB := n0_; clear n0_ hb hbox hg; have hczgq0 := bc BKgq 0; have hfzgq0 := blk_frozen BKgq.out 0; have hczgq1 := bc BKgq 1; have hfzgq1 := blk_frozen BKgq.out 1; have hczgq2 := bc BKgq 2; have hfzgq2 := blk_frozen BKgq.out 2) | ((with_reducible refine gate_callee (f := 37) rfl ?_); refine goesL_ (some 10) rfl rfl Tryd.func37 (by kernel_rfl) rfl #[.agg #[.string s, .int .i64 b, .slice A0 l.length c0]] rfl (by (try simp only [List.map_toArray, List.map_cons, List.map_nil]); first | done | rfl | (simp only [List.length_drop, List.length_take]; rfl)) ?_; (with_reducible refine (begin_ok A0 c0 l s b _ (Kd.C_below HR.out HB.out) HC.out HP.out).mono ?_); rintro e w3 ⟨ga, Ao, co, rfl, hga, hbk, hy, hb⟩; refine ⟨_, rfl, ?_⟩; have m0_ := kl BKgq hb; have m1_ := kl BKgr hb; have n0_ := ls2 HB GEgq GEgr hb; have NEgq_ga := Aside0.mk (show gq ≠ ga from by have e1_ := blk_lt BKgq.out; have e2_ := hga; omega); have NEgr_ga := Aside0.mk (show gr ≠ ga from by have e1_ := blk_lt BKgr.out; have e2_ := hga; omega); have GEga := Aside0.mk (Nat.le_trans (below_size HB.out) hga); have BKga := Aside0.mk hbk; have HO := Aside0.mk (Kd.R_lower hy (below_size HB.out)); clear BKgq; have BKgq := m0_; clear m0_; clear BKgr; have BKgr := m1_; clear m1_; clear HB; have HB := n0_; clear n0_ hb; clear hy hga hbk; clear hczgq0 hfzgq0 hczgq1 hfzgq1 hczgq2 hfzgq2; have hczgq0 := bc BKgq 0; have hfzgq0 := blk_frozen BKgq.out 0; have hczgq1 := bc BKgq 1; have hfzgq1 := blk_frozen BKgq.out 1; have hczgq2 := bc BKgq 2; have hfzgq2 := blk_frozen BKgq.out 2) | ((with_reducible refine gate_callee (f := 38) rfl ?_); refine goesL_ (some 20) rfl rfl Tryd.func38 (by kernel_rfl) rfl #[.int .i64 a1, .int .i64 0] rfl (by (try simp only [List.map_toArray, List.map_cons, List.map_nil]); first | done | rfl | (simp only [List.length_drop, List.length_take]; rfl)) ?_; (with_reducible refine (pwithin_below a1 0 WI.out _).mono ?_); rintro e w4 ⟨rfl, hb⟩; refine ⟨_, rfl, ?_⟩; have m0_ := kl BKgq hb; have m1_ := kl BKgr hb; have m2_ := kl BKga hb; have rHO_ := Aside0.mk (Kd.R_below HO.out hb); have n0_ := ls3 HB GEgq GEgr GEga hb; clear BKgq; have BKgq := m0_; clear m0_; clear BKgr; have BKgr := m1_; clear m1_; clear BKga; have BKga := m2_; clear m2_; clear HB; have HB := n0_; clear HO; have HO := rHO_; clear rHO_; clear n0_ hb; clear hczgq0 hfzgq0 hczgq1 hfzgq1 hczgq2 hfzgq2; have hczgq0 := bc BKgq 0; have hfzgq0 := blk_frozen BKgq.out 0; have hczgq1 := bc BKgq 1; have hfzgq1 := blk_frozen BKgq.out 1; have hczgq2 := bc BKgq 2; have hfzgq2 := blk_frozen BKgq.out 2) | ((with_reducible refine gate_callee (f := 31) rfl ?_); refine goesL_ (some 25) rfl rfl Tryd.func31 (by kernel_rfl) rfl #[.agg #[.string s, .int .i64 b, .slice A0 l.length c0]] rfl (by (try simp only [List.map_toArray, List.map_cons, List.map_nil]); first | done | rfl | (simp only [List.length_drop, List.length_take]; rfl)) ?_; (with_reducible refine (prepaid_Worth.calls 3000 s b A0 c0 l W _ (Kd.C_below HR.out HB.out) HC.out WO.out).mono ?_); rintro e w5 ⟨rfl, hb⟩; refine ⟨_, rfl, ?_⟩; have m0_ := kl BKgq hb; have m1_ := kl BKgr hb; have m2_ := kl BKga hb; have rHO_ := Aside0.mk (Kd.R_below HO.out hb); have n0_ := ls3 HB GEgq GEgr GEga hb; clear BKgq; have BKgq := m0_; clear m0_; clear BKgr; have BKgr := m1_; clear m1_; clear BKga; have BKga := m2_; clear m2_; clear HB; have HB := n0_; clear HO; have HO := rHO_; clear rHO_; clear n0_ hb; clear hczgq0 hfzgq0 hczgq1 hfzgq1 hczgq2 hfzgq2; have hczgr0 := bc BKgr 0; have hfzgr0 := blk_frozen BKgr.out 0; have hczgr1 := bc BKgr 1; have hfzgr1 := blk_frozen BKgr.out 1; have hczgr2 := bc BKgr 2; have hfzgr2 := blk_frozen BKgr.out 2))
        refine bodyPost_ret (results_ct rfl _ _ gr 31 #[.string ⟨#[]⟩, .int .i64 0, .slice none 0 0] (0, 0) _ rfl (by (with_reducible repeat (first | refine blk_drewN ?_ _ | refine blk_drew ?_ | refine blk_alloc ?_ _)); exact (blk_set ((blk_set ((blk_set (BKgr.out) 0 _)) 1 _)) 2 _)) Tryd.underlying31 rfl (by kernel_rfl)) rfl ?_
        exact ⟨_, rfl, Kd.R_nil _ _ _ _ _, lb3 HB GEgq GEgr GEga⟩
      · rw [if_neg h2] at h
        simp only [Option.some.injEq, Prod.mk.injEq] at h
        obtain ⟨rfl, rfl, rfl, rfl⟩ := h
        have h2' : W + a1 ≤ (1099511627776 : Int) := by omega
        clear h2
        go_enter Tryd.func27, Tryd.ntmps27
        go_wp2_with (first | ((with_reducible refine gate_dst (N := 2) rfl ?_); refine box_event ?hg (N := 2) ?hd (cs := #[.string s, .int .i64 b, .slice A0 l.length c0]) (t := 31) ?hr ?_; (case hd => rfl); (case hg => rfl); (case hr => first | (go_simp; done) | (go_simp; rfl)); intro gq hg w1 hbox hb; have n0_ := ls0 HB hb; have BKgq := Aside0.mk hbox; have GEgq := lz0 HB hg; clear HB; have HB := n0_; clear n0_ hb hbox hg) | ((with_reducible refine gate_dst (N := 4) rfl ?_); refine box_event ?hg (N := 4) ?hd (cs := #[.string ⟨#[]⟩, .int .i64 0, .slice none 0 0]) (t := 31) ?hr ?_; (case hd => rfl); (case hg => rfl); (case hr => first | (go_simp; done) | (go_simp; rfl)); intro gr hg w2 hbox hb; have NEgq_gr := Aside0.mk (ne_of_old (g := gq) (g' := gr) (o := .cells #[.string s, .int .i64 b, .slice A0 l.length c0] 31 (0, 0)) (kb BKgq) (by rw [hg])); have m0_ := kl BKgq hb; have n0_ := ls1 HB GEgq hb; have BKgr := Aside0.mk hbox; have GEgr := lz1 HB GEgq hg; clear BKgq; have BKgq := m0_; clear m0_; clear HB; have HB := n0_; clear n0_ hb hbox hg; have hczgq0 := bc BKgq 0; have hfzgq0 := blk_frozen BKgq.out 0; have hczgq1 := bc BKgq 1; have hfzgq1 := blk_frozen BKgq.out 1; have hczgq2 := bc BKgq 2; have hfzgq2 := blk_frozen BKgq.out 2) | ((with_reducible refine gate_callee (f := 37) rfl ?_); refine goesL_ (some 10) rfl rfl Tryd.func37 (by kernel_rfl) rfl #[.agg #[.string s, .int .i64 b, .slice A0 l.length c0]] rfl (by (try simp only [List.map_toArray, List.map_cons, List.map_nil]); first | done | rfl | (simp only [List.length_drop, List.length_take]; rfl)) ?_; (with_reducible refine (begin_ok A0 c0 l s b _ (Kd.C_below HR.out HB.out) HC.out HP.out).mono ?_); rintro e w3 ⟨ga, Ao, co, rfl, hga, hbk, hy, hb⟩; refine ⟨_, rfl, ?_⟩; have m0_ := kl BKgq hb; have m1_ := kl BKgr hb; have n0_ := ls2 HB GEgq GEgr hb; have NEgq_ga := Aside0.mk (show gq ≠ ga from by have e1_ := blk_lt BKgq.out; have e2_ := hga; omega); have NEgr_ga := Aside0.mk (show gr ≠ ga from by have e1_ := blk_lt BKgr.out; have e2_ := hga; omega); have GEga := Aside0.mk (Nat.le_trans (below_size HB.out) hga); have BKga := Aside0.mk hbk; have HO := Aside0.mk (Kd.R_lower hy (below_size HB.out)); clear BKgq; have BKgq := m0_; clear m0_; clear BKgr; have BKgr := m1_; clear m1_; clear HB; have HB := n0_; clear n0_ hb; clear hy hga hbk; clear hczgq0 hfzgq0 hczgq1 hfzgq1 hczgq2 hfzgq2; have hczgq0 := bc BKgq 0; have hfzgq0 := blk_frozen BKgq.out 0; have hczgq1 := bc BKgq 1; have hfzgq1 := blk_frozen BKgq.out 1; have hczgq2 := bc BKgq 2; have hfzgq2 := blk_frozen BKgq.out 2) | ((with_reducible refine gate_callee (f := 38) rfl ?_); refine goesL_ (some 20) rfl rfl Tryd.func38 (by kernel_rfl) rfl #[.int .i64 a1, .int .i64 0] rfl (by (try simp only [List.map_toArray, List.map_cons, List.map_nil]); first | done | rfl | (simp only [List.length_drop, List.length_take]; rfl)) ?_; (with_reducible refine (pwithin_below a1 0 WI.out _).mono ?_); rintro e w4 ⟨rfl, hb⟩; refine ⟨_, rfl, ?_⟩; have m0_ := kl BKgq hb; have m1_ := kl BKgr hb; have m2_ := kl BKga hb; have rHO_ := Aside0.mk (Kd.R_below HO.out hb); have n0_ := ls3 HB GEgq GEgr GEga hb; clear BKgq; have BKgq := m0_; clear m0_; clear BKgr; have BKgr := m1_; clear m1_; clear BKga; have BKga := m2_; clear m2_; clear HB; have HB := n0_; clear HO; have HO := rHO_; clear rHO_; clear n0_ hb; clear hczgq0 hfzgq0 hczgq1 hfzgq1 hczgq2 hfzgq2; have hczgq0 := bc BKgq 0; have hfzgq0 := blk_frozen BKgq.out 0; have hczgq1 := bc BKgq 1; have hfzgq1 := blk_frozen BKgq.out 1; have hczgq2 := bc BKgq 2; have hfzgq2 := blk_frozen BKgq.out 2) | ((with_reducible refine gate_callee (f := 31) rfl ?_); refine goesL_ (some 25) rfl rfl Tryd.func31 (by kernel_rfl) rfl #[.agg #[.string s, .int .i64 b, .slice A0 l.length c0]] rfl (by (try simp only [List.map_toArray, List.map_cons, List.map_nil]); first | done | rfl | (simp only [List.length_drop, List.length_take]; rfl)) ?_; (with_reducible refine (prepaid_Worth.calls 3000 s b A0 c0 l W _ (Kd.C_below HR.out HB.out) HC.out WO.out).mono ?_); rintro e w5 ⟨rfl, hb⟩; refine ⟨_, rfl, ?_⟩; have m0_ := kl BKgq hb; have m1_ := kl BKgr hb; have m2_ := kl BKga hb; have rHO_ := Aside0.mk (Kd.R_below HO.out hb); have n0_ := ls3 HB GEgq GEgr GEga hb; clear BKgq; have BKgq := m0_; clear m0_; clear BKgr; have BKgr := m1_; clear m1_; clear BKga; have BKga := m2_; clear m2_; clear HB; have HB := n0_; clear HO; have HO := rHO_; clear rHO_; clear n0_ hb; clear hczgq0 hfzgq0 hczgq1 hfzgq1 hczgq2 hfzgq2; have hczga0 := bc BKga 0; have hfzga0 := blk_frozen BKga.out 0; have hczga1 := bc BKga 1; have hfzga1 := blk_frozen BKga.out 1; have hczga2 := bc BKga 2; have hfzga2 := blk_frozen BKga.out 2) | ((with_reducible refine gate_store (t := 3) (p := 39) rfl ?_); refine store_event (t := 3) (p := 39) (v := .tmp 36) (w1 := (w5).setCell ⟨ga, 1, none⟩ (.int .i64 (b + a1))) ?hg ?ho ?hn ?hr ?_; (case ho => rfl); (case hg => rfl); (case hn => rfl); (case hr => first | (go_simp; done) | (go_simp; rfl)); intro w6 hw_; have m0_ := Aside0.mk (show w6.heap[gq]? = some (.cells #[.string s, .int .i64 b, .slice A0 l.length c0] 31 (0, 0)) from by rw [hw_]; exact (blk_far (p := ⟨ga, 1, none⟩) (BKgq.out) NEgq_ga.out _)); have m1_ := Aside0.mk (show w6.heap[gr]? = some (.cells #[.string ⟨#[]⟩, .int .i64 0, .slice none 0 0] 31 (0, 0)) from by rw [hw_]; exact (blk_far (p := ⟨ga, 1, none⟩) (BKgr.out) NEgr_ga.out _)); have m2_ := Aside0.mk (show w6.heap[ga]? = some (.cells #[.string s, .int .i64 (b + a1), .slice Ao l.length co] 82 (0, 0)) from by rw [hw_]; exact (blk_set (BKga.out) 1 _)); have n0_ := Aside0.mk (show Below w.heap.size w w6 from by rw [hw_]; exact (below_set (j := 1) (HB.out) GEga.out)); have rHO_ := Aside0.mk (show Kd.R _ _ w6 _ (fun _ => True) _ _ from by rw [hw_]; exact row_any (Kd.R_far (p := ⟨ga, 1, none⟩) (row_own HO.out) (fun k_ hk_ e_ => (Ne.symm (Kd.R_ne HO.out BKga.out (by decide))) (by rw [hk_]; exact congrArg some e_)) _)); clear BKgq; have BKgq := m0_; clear m0_; clear BKgr; have BKgr := m1_; clear m1_; clear BKga; have BKga := m2_; clear m2_; clear HB; have HB := n0_; clear HO; have HO := rHO_; clear rHO_; clear n0_ hw_; clear hczga0 hfzga0 hczga1 hfzga1 hczga2 hfzga2; have hczga0 := bc BKga 0; have hfzga0 := blk_frozen BKga.out 0; have hczga1 := bc BKga 1; have hfzga1 := blk_frozen BKga.out 1; have hczga2 := bc BKga 2; have hfzga2 := blk_frozen BKga.out 2; have hczgr0 := bc BKgr 0; have hfzgr0 := blk_frozen BKgr.out 0; have hczgr1 := bc BKgr 1; have hfzgr1 := blk_frozen BKgr.out 1; have hczgr2 := bc BKgr 2; have hfzgr2 := blk_frozen BKgr.out 2))
        refine bodyPost_ret (results_ct rfl _ _ gr 31 #[.string s, .int .i64 (b + a1), .slice Ao l.length co] (0, 0) _ rfl (by (with_reducible repeat (first | refine blk_drewN ?_ _ | refine blk_drew ?_ | refine blk_alloc ?_ _)); exact (blk_set ((blk_set ((blk_set (BKgr.out) 0 _)) 1 _)) 2 _)) Tryd.underlying31 rfl (by kernel_rfl)) rfl ?_
        exact ⟨_, rfl, by (with_reducible repeat (first | apply Kd.R_alloc | apply Kd.R_drewN | apply Kd.R_drew)); exact Kd.R_mono (Kd.R_far (p := ⟨gr, 2, none⟩) (Kd.R_far (p := ⟨gr, 1, none⟩) (Kd.R_far (p := ⟨gr, 0, none⟩) (Kd.R_types HO.out BKgr.out (by decide)) (fun _ hk => hk.2) _) (fun _ hk => hk.2) _) (fun _ hk => hk.2) _) (fun _ hk => trivial), lb3 HB GEgq GEgr GEga⟩
    · rw [if_neg h1] at h
      simp only [Option.some.injEq, Prod.mk.injEq] at h
      obtain ⟨rfl, rfl, rfl, rfl⟩ := h
      have WI := Aside0.mk (decide_eq_false h1)
      clear h1
      go_enter Tryd.func27, Tryd.ntmps27
      go_wp2_with (first | ((with_reducible refine gate_dst (N := 2) rfl ?_); refine box_event ?hg (N := 2) ?hd (cs := #[.string s, .int .i64 b, .slice A0 l.length c0]) (t := 31) ?hr ?_; (case hd => rfl); (case hg => rfl); (case hr => first | (go_simp; done) | (go_simp; rfl)); intro gq hg w1 hbox hb; have n0_ := ls0 HB hb; have BKgq := Aside0.mk hbox; have GEgq := lz0 HB hg; clear HB; have HB := n0_; clear n0_ hb hbox hg) | ((with_reducible refine gate_dst (N := 4) rfl ?_); refine box_event ?hg (N := 4) ?hd (cs := #[.string ⟨#[]⟩, .int .i64 0, .slice none 0 0]) (t := 31) ?hr ?_; (case hd => rfl); (case hg => rfl); (case hr => first | (go_simp; done) | (go_simp; rfl)); intro gr hg w2 hbox hb; have NEgq_gr := Aside0.mk (ne_of_old (g := gq) (g' := gr) (o := .cells #[.string s, .int .i64 b, .slice A0 l.length c0] 31 (0, 0)) (kb BKgq) (by rw [hg])); have m0_ := kl BKgq hb; have n0_ := ls1 HB GEgq hb; have BKgr := Aside0.mk hbox; have GEgr := lz1 HB GEgq hg; clear BKgq; have BKgq := m0_; clear m0_; clear HB; have HB := n0_; clear n0_ hb hbox hg; have hczgq0 := bc BKgq 0; have hfzgq0 := blk_frozen BKgq.out 0; have hczgq1 := bc BKgq 1; have hfzgq1 := blk_frozen BKgq.out 1; have hczgq2 := bc BKgq 2; have hfzgq2 := blk_frozen BKgq.out 2) | ((with_reducible refine gate_callee (f := 37) rfl ?_); refine goesL_ (some 10) rfl rfl Tryd.func37 (by kernel_rfl) rfl #[.agg #[.string s, .int .i64 b, .slice A0 l.length c0]] rfl (by (try simp only [List.map_toArray, List.map_cons, List.map_nil]); first | done | rfl | (simp only [List.length_drop, List.length_take]; rfl)) ?_; (with_reducible refine (begin_ok A0 c0 l s b _ (Kd.C_below HR.out HB.out) HC.out HP.out).mono ?_); rintro e w3 ⟨ga, Ao, co, rfl, hga, hbk, hy, hb⟩; refine ⟨_, rfl, ?_⟩; have m0_ := kl BKgq hb; have m1_ := kl BKgr hb; have n0_ := ls2 HB GEgq GEgr hb; have NEgq_ga := Aside0.mk (show gq ≠ ga from by have e1_ := blk_lt BKgq.out; have e2_ := hga; omega); have NEgr_ga := Aside0.mk (show gr ≠ ga from by have e1_ := blk_lt BKgr.out; have e2_ := hga; omega); have GEga := Aside0.mk (Nat.le_trans (below_size HB.out) hga); have BKga := Aside0.mk hbk; have HO := Aside0.mk (Kd.R_lower hy (below_size HB.out)); clear BKgq; have BKgq := m0_; clear m0_; clear BKgr; have BKgr := m1_; clear m1_; clear HB; have HB := n0_; clear n0_ hb; clear hy hga hbk; clear hczgq0 hfzgq0 hczgq1 hfzgq1 hczgq2 hfzgq2; have hczgr0 := bc BKgr 0; have hfzgr0 := blk_frozen BKgr.out 0; have hczgr1 := bc BKgr 1; have hfzgr1 := blk_frozen BKgr.out 1; have hczgr2 := bc BKgr 2; have hfzgr2 := blk_frozen BKgr.out 2) | ((with_reducible refine gate_callee (f := 38) rfl ?_); refine goesL_ (some 20) rfl rfl Tryd.func38 (by kernel_rfl) rfl #[.int .i64 a1, .int .i64 0] rfl (by (try simp only [List.map_toArray, List.map_cons, List.map_nil]); first | done | rfl | (simp only [List.length_drop, List.length_take]; rfl)) ?_; (with_reducible refine (pwithin_below a1 0 WI.out _).mono ?_); rintro e w4 ⟨rfl, hb⟩; refine ⟨_, rfl, ?_⟩; have m0_ := kl BKgq hb; have m1_ := kl BKgr hb; have m2_ := kl BKga hb; have rHO_ := Aside0.mk (Kd.R_below HO.out hb); have n0_ := ls3 HB GEgq GEgr GEga hb; clear BKgq; have BKgq := m0_; clear m0_; clear BKgr; have BKgr := m1_; clear m1_; clear BKga; have BKga := m2_; clear m2_; clear HB; have HB := n0_; clear HO; have HO := rHO_; clear rHO_; clear n0_ hb; clear hczgr0 hfzgr0 hczgr1 hfzgr1 hczgr2 hfzgr2; have hczgr0 := bc BKgr 0; have hfzgr0 := blk_frozen BKgr.out 0; have hczgr1 := bc BKgr 1; have hfzgr1 := blk_frozen BKgr.out 1; have hczgr2 := bc BKgr 2; have hfzgr2 := blk_frozen BKgr.out 2))
      refine bodyPost_ret (results_ct rfl _ _ gr 31 #[.string ⟨#[]⟩, .int .i64 0, .slice none 0 0] (0, 0) _ rfl (by (with_reducible repeat (first | refine blk_drewN ?_ _ | refine blk_drew ?_ | refine blk_alloc ?_ _)); exact (blk_set ((blk_set ((blk_set (BKgr.out) 0 _)) 1 _)) 2 _)) Tryd.underlying31 rfl (by kernel_rfl)) rfl ?_
      exact ⟨_, rfl, Kd.R_nil _ _ _ _ _, lb3 HB GEgq GEgr GEga⟩
  · rw [if_neg hp] at h
    obtain ⟨c, hcc⟩ : ∃ c, pchk s b l = c := ⟨_, rfl⟩
    rw [hcc] at h hp
    have c4b0 : (c == 0) = false := beq_eq_false_iff_ne.mpr hp
    have c4b1 : (c != 0) = true := bne_iff_ne.mpr hp
    have HP := Aside0.mk hcc
    have HNE := Aside0.mk hp
    clear hp hcc
    simp only [Option.some.injEq, Prod.mk.injEq] at h
    obtain ⟨rfl, rfl, rfl, rfl⟩ := h
    go_enter Tryd.func27, Tryd.ntmps27
    go_wp2_with (first | ((with_reducible refine gate_dst (N := 2) rfl ?_); refine box_event ?hg (N := 2) ?hd (cs := #[.string s, .int .i64 b, .slice A0 l.length c0]) (t := 31) ?hr ?_; (case hd => rfl); (case hg => rfl); (case hr => first | (go_simp; done) | (go_simp; rfl)); intro gq hg w1 hbox hb; have n0_ := ls0 HB hb; have BKgq := Aside0.mk hbox; have GEgq := lz0 HB hg; clear HB; have HB := n0_; clear n0_ hb hbox hg) | ((with_reducible refine gate_dst (N := 4) rfl ?_); refine box_event ?hg (N := 4) ?hd (cs := #[.string ⟨#[]⟩, .int .i64 0, .slice none 0 0]) (t := 31) ?hr ?_; (case hd => rfl); (case hg => rfl); (case hr => first | (go_simp; done) | (go_simp; rfl)); intro gr hg w2 hbox hb; have NEgq_gr := Aside0.mk (ne_of_old (g := gq) (g' := gr) (o := .cells #[.string s, .int .i64 b, .slice A0 l.length c0] 31 (0, 0)) (kb BKgq) (by rw [hg])); have m0_ := kl BKgq hb; have n0_ := ls1 HB GEgq hb; have BKgr := Aside0.mk hbox; have GEgr := lz1 HB GEgq hg; clear BKgq; have BKgq := m0_; clear m0_; clear HB; have HB := n0_; clear n0_ hb hbox hg; have hczgq0 := bc BKgq 0; have hfzgq0 := blk_frozen BKgq.out 0; have hczgq1 := bc BKgq 1; have hfzgq1 := blk_frozen BKgq.out 1; have hczgq2 := bc BKgq 2; have hfzgq2 := blk_frozen BKgq.out 2) | ((with_reducible refine gate_callee (f := 37) rfl ?_); refine goesL_ (some 10) rfl rfl Tryd.func37 (by kernel_rfl) rfl #[.agg #[.string s, .int .i64 b, .slice A0 l.length c0]] rfl (by (try simp only [List.map_toArray, List.map_cons, List.map_nil]); first | done | rfl | (simp only [List.length_drop, List.length_take]; rfl)) ?_; (with_reducible refine (begin_no A0 c0 l s b c _ (Kd.C_below HR.out HB.out) HC.out HP.out HNE.out).mono ?_); rintro e w3 ⟨rfl, hb⟩; refine ⟨_, rfl, ?_⟩; have m0_ := kl BKgq hb; have m1_ := kl BKgr hb; have n0_ := ls2 HB GEgq GEgr hb; clear BKgq; have BKgq := m0_; clear m0_; clear BKgr; have BKgr := m1_; clear m1_; clear HB; have HB := n0_; clear n0_ hb; clear hczgq0 hfzgq0 hczgq1 hfzgq1 hczgq2 hfzgq2; have hczgr0 := bc BKgr 0; have hfzgr0 := blk_frozen BKgr.out 0; have hczgr1 := bc BKgr 1; have hfzgr1 := blk_frozen BKgr.out 1; have hczgr2 := bc BKgr 2; have hfzgr2 := blk_frozen BKgr.out 2))
    refine bodyPost_ret (results_ct rfl _ _ gr 31 #[.string ⟨#[]⟩, .int .i64 0, .slice none 0 0] (0, 0) _ rfl (by (with_reducible repeat (first | refine blk_drewN ?_ _ | refine blk_drew ?_ | refine blk_alloc ?_ _)); exact (blk_set ((blk_set ((blk_set (BKgr.out) 0 _)) 1 _)) 2 _)) Tryd.underlying31 rfl (by kernel_rfl)) rfl ?_
    exact ⟨_, rfl, Kd.R_nil _ _ _ _ _, lb2 HB GEgq GEgr⟩
end Go.Proofs.YtldpacphackdjaaDoor.Print
