/- Parts of the proofs of layer 28's laws, joined in one file by a program of the session; each part begins with its own sentence. -/
import Derived.Test.YtldpacphackdjaaDoorZaSq
import Derived.Test.YtldpacphackdjaaDoorZaK0
import Derived.Test.YtldpacphackdjaaDoorZa6
import Derived.Test.YtldpacphackdjaaDoorZd1
import Derived.Test.YtldpacphackdjaaDoorZdF30
/- That the call of function 32 (crossbarref28_Worth) answers what the Lean function of the same name answers, at every input at which that one answers. (Written by a program of the session, which drives the kit's printer.) -/
namespace Go.Proofs.YtldpacphackdjaaDoor.Print
open Go.RowKit Go.Proofs.YtldpacphackdjaaDoorW.PrintWords Go.Proofs.YtldpacphackdjaaDoorW.PrintLast Go.Proofs.YtldpacphackdjaaDoorW.PrintMore
attribute [local go_sem] max2_int min2_int max_two min_two max_three min_three max_four min_four   -- for this text's walks alone
set_option linter.unusedVariables false
set_option linter.unusedSimpArgs false

/-! ### crossbarref28_Worth: function 32 -/
def crossbarref28_Worth.l0 : Nat → Int → Int → ByteArray → Int → List (S54) → Option (Int)
 | 0, _, _, _, _, _ => none
 | k + 1, x3, x4, x370000, x370001, x370002 => if x4 < (x370002.length : Int) then (if 0 ≤ x4 then (crossbarref28_Worth.l0 k (wrap64 (x3 + ((rd_T54 x370002 x4).f1))) (wrap64 (x4 + 1)) x370000 x370001 x370002) else (none)) else (some x3)
def crossbarref28_Worth.f (k : Nat) (a0_0 : ByteArray) (a0_1 : Int) (l0_2 : List (S54)) : Option (Int) := crossbarref28_Worth.l0 k a0_1 0 a0_0 a0_1 l0_2
set_option maxHeartbeats 8000000 in
set_option maxRecDepth 100000 in
theorem crossbarref28_Worth.calls (k : Nat) (a0_0 : ByteArray) (a0_1 : Int) (A0_2 : Option Addr) (c0_2 : Nat) (l0_2 : List (S54)) (r : Int) (w : World) (hr0_2 : Kd.C k54 w A0_2 l0_2.length l0_2) (hc0_2 : l0_2.length ≤ c0_2) (h : crossbarref28_Worth.f k a0_0 a0_1 l0_2 = some r) :
  Calls Tryd.prog 32 #[.agg #[.string a0_0, .int .i64 a0_1, .slice A0_2 l0_2.length c0_2]] w fun e w' => e = .returned (.int .i64 r) ∧ Below w.heap.size w w' := by
 have hu31 := Tryd.underlying31
 have HR0_2 := Aside0.mk hr0_2
 have HC0_2 := Aside0.mk hc0_2
 clear hr0_2 hc0_2
 have HB := Aside0.mk (Below.refl w.heap.size w)
 have H : (crossbarref28_Worth.l0 k a0_1 0 a0_0 a0_1 l0_2) = some r := h
 clear h
 have H' := Aside0.mk H
 clear H
 go_enter Tryd.func32, Tryd.ntmps32
 go_wp2_with (first | ((with_reducible refine gate_dst (N := 1) rfl ?_); refine box_event ?hg (N := 1) ?hd (cs := #[.string a0_0, .int .i64 a0_1, .slice A0_2 l0_2.length c0_2]) (t := 31) ?hr ?_; (case hd => rfl); (case hg => rfl); (case hr => first | (go_simp; done) | (go_simp; rfl)); intro gb369 hg w2 hbox hb; have n0_ := ls0 HB hb; have n1_ := Aside0.mk (hbox); have n2_ := Aside0.mk ((by rw [hg]; exact (below_size (lb0 HB)) : w.heap.size ≤ gb369)); have n3_ := Aside0.mk ((by rw [hg]; exact (below_size (lb0 HB)) : w.heap.size ≤ gb369)); clear HB; have HB := n0_; have BK369 := n1_; have GW369 := n2_; have GE369 := n3_; clear n0_ n1_ n2_ n3_; clear hb hbox hg; have hcz3_0 := bc BK369 0; have hcz3_1 := bc BK369 1; have hcz3_2 := bc BK369 2; have hfz3_0 := blk_frozen BK369.out 0; have hfz3_1 := blk_frozen BK369.out 1; have hfz3_2 := blk_frozen BK369.out 2))
 go_loopg [3, 4] k (fun kq v3 v4 w' => ∃ (x3_1 : Int) (x4_1 : Int), v3 = .int .i64 x3_1 ∧ v4 = .int .i64 x4_1 ∧ Aside0 (crossbarref28_Worth.l0 kq x3_1 x4_1 a0_0 a0_1 l0_2 = some r) ∧ Aside0 (kq ≤ k) ∧ Aside0 (w'.heap[gb369]? = some (.cells #[.string a0_0, .int .i64 a0_1, (.slice A0_2 l0_2.length c0_2)] 31 (0, 0))) ∧ Aside0 (Below w.heap.size w w'))
 case atStart => exact ⟨(a0_1), (0), (by first | rfl | (simp; done) | (simp [*]; done)), (by first | rfl | (simp; done) | (simp [*]; done)), H', ⟨Nat.le_refl _⟩, ⟨kb BK369⟩, ⟨lb1 HB GE369⟩⟩
 case round =>
  clear H'
  try clear p2; try clear c3; try clear hcz3_0; try clear hcz3_1; try clear hcz3_2; try clear hfz3_0; try clear hfz3_1; try clear hfz3_2
  obtain ⟨x3_1, x4_1, rfl, rfl, HA, HK1, BK369, HB⟩ := hrel
  cases gk with
  | zero => exact absurd HA.out (by simp [crossbarref28_Worth.l0])
  | succ k1 =>
   have H := HA.out
   clear HA
   simp only [crossbarref28_Worth.l0] at H
   by_cases c4 : x4_1 < (l0_2.length : Int)
   ·rw [if_pos c4] at H
    have c4b0 : decide (x4_1 < (l0_2.length : Int)) = true := decide_eq_true c4
    clear c4
    by_cases c5 : 0 ≤ x4_1
    ·rw [if_pos c5] at H
     have c5b0 : decide (0 ≤ x4_1) = true := decide_eq_true c5
     clear c5
     have H' := Aside0.mk H
     clear H
     have hcz6_0 := bc BK369 0
     have hcz6_1 := bc BK369 1
     have hcz6_2 := bc BK369 2
     have hfz6_0 := blk_frozen BK369.out 0
     have hfz6_1 := blk_frozen BK369.out 1
     have hfz6_2 := blk_frozen BK369.out 2
     have p370 : 0 ≤ (x4_1 : Int) := of_decide_eq_true (by first | (with_reducible assumption) | assumption)
     have q370 : x4_1 < (l0_2.length : Int) := of_decide_eq_true (by first | (with_reducible assumption) | assumption)
     obtain ⟨ad370, e370, hx370_0, hx370_1, hx370_2⟩ := at_T54 HR0_2.out x4_1 p370 q370
     cases e370
     replace hx370_0 := (HB.out.cell (World.block_lt_of_cell? w _ hx370_0)).trans hx370_0
     replace hx370_1 := (HB.out.cell (World.block_lt_of_cell? w _ hx370_1)).trans hx370_1
     replace hx370_2 := (HB.out.cell (World.block_lt_of_cell? w _ hx370_2)).trans hx370_2
     replace p370 := eq_true p370
     replace q370 := eq_true q370
     go_wp2
     go_roundg k1
     case measure => have := HK1.out; omega
     case rel => exact ⟨(wrap64 (x3_1 + ((rd_T54 l0_2 x4_1).f1))), (wrap64 (x4_1 + 1)), (by first | rfl | (simp; done) | (simp [*]; done)), (by first | rfl | (simp; done) | (simp [*]; done)), H', ⟨by have := HK1.out; omega⟩, ⟨kb BK369⟩, ⟨lb1 HB GE369⟩⟩
    ·rw [if_neg c5] at H
     exact absurd H (by simp)
   ·rw [if_neg c4] at H
    have c4b0 : decide (x4_1 < (l0_2.length : Int)) = false := decide_eq_false c4
    clear c4
    obtain rfl := Option.some.inj H
    have hcz7_0 := bc BK369 0
    have hcz7_1 := bc BK369 1
    have hcz7_2 := bc BK369 2
    have hfz7_0 := blk_frozen BK369.out 0
    have hfz7_1 := blk_frozen BK369.out 1
    have hfz7_2 := blk_frozen BK369.out 2
    go_wp2
    go_ret
    exact ⟨by first | rfl | (simp [errW_none, errW_some] <;> rfl) | (simp [*, errW_none, errW_some] <;> rfl), lb1 HB GE369⟩

end Go.Proofs.YtldpacphackdjaaDoor.Print
/- What the reference's number, Check and Worth answer: the same as the program's Check and Worth. Conditions: enough rounds. -/
namespace Go.Proofs.YtldpacphackdjaaDoor.Print
open Go.RowKit Go.Proofs.YtldpacphackdjaaDoorW.PrintWords Go.Proofs.YtldpacphackdjaaDoorW.PrintLast Go.Proofs.YtldpacphackdjaaDoorW.PrintMore
set_option linter.unusedVariables false
set_option linter.unusedSimpArgs false

theorem rwithin_is (n : Int) : crossbarref28_within.f n = some (decide (0 ≤ n ∧ n ≤ 1099511627776)) := by
  unfold crossbarref28_within.f
  by_cases h : n ≥ 0
  · rw [if_pos h]; simp [show 0 ≤ n from h]
  · rw [if_neg h]; simp [show ¬ 0 ≤ n from h]
theorem drop_all {α : Type} (p : α → Bool) : ∀ l : List α, (∀ x ∈ l.dropWhile p, p x = true) → ∀ x ∈ l, p x = true
  | [], _, x, hx => by cases hx
  | a :: t, h, x, hx => by
    by_cases ha : p a = true
    · rw [List.dropWhile_cons_of_pos ha] at h
      rcases List.mem_cons.1 hx with rfl | hx
      · exact ha
      · exact drop_all p t h x hx
    · rw [List.dropWhile_cons_of_neg ha] at h
      exact absurd (h a (by simp)) ha
theorem drop_nil {α : Type} (p : α → Bool) : ∀ l : List α, (l.dropWhile p = [] ↔ ∀ x ∈ l, p x = true)
  | [] => by simp
  | a :: t => by
    by_cases ha : p a = true
    · rw [List.dropWhile_cons_of_pos ha, drop_nil p t]
      simp [ha]
    · rw [List.dropWhile_cons_of_neg ha]
      simp [ha]
theorem trim_nil (l cs : List UInt8) : Lib.trimS l cs = [] ↔ ∀ x ∈ l, cs.contains x = true := by
  unfold Lib.trimS Lib.trimLeftS Lib.trimRightS
  rw [drop_nil]
  constructor
  · intro h x hx
    exact drop_all (cs.contains ·) l.reverse (fun y hy => h y (by simpa using hy)) x (by simpa using hx)
  · intro h x hx
    have : x ∈ l.reverse.dropWhile (cs.contains ·) := by simpa using hx
    exact h x (by simpa using (List.dropWhile_suffix (cs.contains ·)).subset this)
theorem digit_all : ∀ n : Fin 256, digits10.data.toList.contains (UInt8.ofFin n) = decide (48 ≤ n.val ∧ n.val ≤ 57) := by decide +kernel
theorem digit_is (x : UInt8) : digits10.data.toList.contains x = decide (48 ≤ x.toNat ∧ x.toNat ≤ 57) := digit_all x.toFin
/-- Every byte is a digit. -/
def allDig (s : ByteArray) : Prop := ∀ i : Nat, i < s.size → 48 ≤ bt s (i : Int) ∧ bt s (i : Int) ≤ 57
theorem bt_is (s : ByteArray) (i : Nat) (h : i < s.size) : bt s (i : Int) = (s[i].toNat : Int) := by
  unfold bt
  rw [dif_pos (by simpa using h)]
  rfl
theorem trim_digits (s : ByteArray) : Lib.trimS s.data.toList digits10.data.toList = [] ↔ allDig s := by
  rw [trim_nil]
  constructor
  · intro h i hi
    have := h s[i] (by rw [Array.mem_toList_iff]; exact Array.getElem_mem _)
    rw [digit_is, decide_eq_true_eq] at this
    rw [bt_is s i hi]
    omega
  · intro h x hx
    obtain ⟨i, hi, rfl⟩ := List.getElem_of_mem hx
    have hi2 : i < s.size := by simpa using hi
    have := h i hi2
    rw [bt_is s i hi2] at this
    have e : s.data.toList[i] = s[i] := by rw [Array.getElem_toList]; rfl
    rw [e, digit_is, decide_eq_true_eq]
    omega
theorem num_l0 (s : ByteArray) (hs : s.size ≤ 1000000) : ∀ (d j k : Nat), s.size - j = d → d + 1 ≤ k → (∀ i : Nat, i < j → i < s.size → 48 ≤ bt s (i : Int) ∧ bt s (i : Int) ≤ 57) → ∃ r, crossbarref28_number.l0 k s (j : Int) = some r ∧ (r = true ↔ allDig s) := by
  intro d
  induction d with
  | zero =>
    intro j k hd hk hp
    obtain ⟨k, rfl⟩ : ∃ i, k = i + 1 := ⟨k - 1, by omega⟩
    simp only [crossbarref28_number.l0]
    rw [if_neg (by omega)]
    exact ⟨true, rfl, fun _ i hi => hp i (by omega) hi, fun _ => rfl⟩
  | succ d ih =>
    intro j k hd hk hp
    obtain ⟨k, rfl⟩ : ∃ i, k = i + 1 := ⟨k - 1, by omega⟩
    have hj : j < s.size := by omega
    simp only [crossbarref28_number.l0]
    rw [if_pos (by omega), if_pos (by omega)]
    by_cases h1 : bt s (j : Int) < 48
    · rw [if_pos h1]
      exact ⟨false, rfl, fun h => (by cases h), fun h => (by have := h j hj; omega)⟩
    · rw [if_neg h1]
      by_cases h2 : bt s (j : Int) > 57
      · rw [if_pos h2]
        exact ⟨false, rfl, fun h => (by cases h), fun h => (by have := h j hj; omega)⟩
      · rw [if_neg h2, pw1 (by omega)]
        refine ih (j + 1) k (by omega) (by omega) (fun i hi his => ?_)
        by_cases e : i = j
        · subst e; omega
        · exact hp i (by omega) his
theorem number_is (s : ByteArray) (k : Nat) (hk : 20 ≤ k) : crossbarref28_number.f k s = some (numB s) := by
  obtain ⟨k, rfl⟩ : ∃ i, k = i + 1 := ⟨k - 1, by omega⟩
  unfold crossbarref28_number.f numB
  simp only [crossbarref28_number.j0]
  by_cases h1 : (s.size : Int) < 1
  · rw [if_pos h1, if_pos trivial, decide_eq_false (by omega : ¬ 1 ≤ s.size)]
    rfl
  · rw [if_neg h1, decide_eq_true (by omega : 1 ≤ s.size)]
    by_cases h2 : (s.size : Int) > 15
    · rw [if_pos (decide_eq_true h2), decide_eq_false (by omega : ¬ s.size ≤ 15)]
      rfl
    · rw [if_neg (by simpa using h2), decide_eq_true (by omega : s.size ≤ 15)]
      obtain ⟨r, e, hr⟩ := num_l0 s (by omega) s.size 0 k (by omega) (by omega) (fun i hi => by omega)
      rw [show ((0 : Nat) : Int) = 0 from rfl] at e
      rw [e, Bool.true_and, Bool.true_and]
      congr 1
      by_cases h : allDig s
      · rw [decide_eq_true ((trim_digits s).2 h)]; exact hr.2 h
      · rw [decide_eq_false (fun e2 => h ((trim_digits s).1 e2))]; exact Bool.eq_false_iff.2 (fun e2 => h (hr.1 e2))

theorem rworth_l0 (s : ByteArray) (b0 : Int) (l : List S54) (hl : l.length ≤ 1000000000) : ∀ (d j k : Nat) (n : Int), l.length - j = d → d + 1 ≤ k → crossbarref28_Worth.l0 k n (j : Int) s b0 l = some (worthW n (l.drop j)) := by
  intro d
  induction d with
  | zero =>
    intro j k n hd hk
    obtain ⟨k, rfl⟩ : ∃ i, k = i + 1 := ⟨k - 1, by omega⟩
    simp only [crossbarref28_Worth.l0]
    rw [if_neg (by omega), List.drop_of_length_le (by omega)]
    rfl
  | succ d ih =>
    intro j k n hd hk
    obtain ⟨k, rfl⟩ : ∃ i, k = i + 1 := ⟨k - 1, by omega⟩
    have hj : j < l.length := by omega
    simp only [crossbarref28_Worth.l0]
    rw [if_pos (by omega), if_pos (by omega), pw1 (by omega), dropH_at l j hj, ih (j + 1) k _ (by omega) (by omega)]
    rfl
theorem rworth_is (s : ByteArray) (b : Int) (l : List S54) (hl : l.length ≤ 1000000000) (k : Nat) (hk : l.length + 1 ≤ k) : crossbarref28_Worth.f k s b l = some (worthW b l) := by
  unfold crossbarref28_Worth.f
  have := rworth_l0 s b l hl l.length 0 k b (by omega) (by omega)
  rw [show ((0 : Nat) : Int) = 0 from rfl] at this
  rw [this]
  rfl
theorem rcheck28_l0 (s : ByteArray) (b : Int) (l : List S54) (hl : l.length ≤ 1024) (hb : 0 ≤ b ∧ b ≤ 1099511627776) : ∀ (d j k : Nat) (n : Int), l.length - j = d → d + 1 ≤ k → n ≤ 1099511627776 + j * 1099511627776 → 0 ≤ n →
    crossbarref28_Check.l0 k n (j : Int) s b l = some (if hFrom (prevH l j) (l.drop j) = true ∧ worthW n (l.drop j) ≤ 1099511627776 then 0 else 1) := by
  intro d
  induction d with
  | zero =>
    intro j k n hd hk hn hn0
    obtain ⟨k, rfl⟩ : ∃ i, k = i + 1 := ⟨k - 1, by omega⟩
    simp only [crossbarref28_Check.l0]
    rw [if_neg (by omega), rwithin_is, Option.bind_some, List.drop_of_length_le (by omega)]
    by_cases h : n ≤ 1099511627776
    · rw [if_pos (decide_eq_true ⟨hn0, h⟩), if_pos ⟨rfl, h⟩]
    · rw [if_neg (by simp; omega), if_neg (fun h2 => h h2.2)]
  | succ d ih =>
    intro j k n hd hk hn hn0
    obtain ⟨k, rfl⟩ : ∃ i, k = i + 1 := ⟨k - 1, by omega⟩
    have hj : j < l.length := by omega
    have hp : prevH l (j + 1) = (rd_T54 l (j : Int)).f0 := by unfold prevH; rw [if_neg (by omega), Nat.add_sub_cancel]
    have hx := holdB_iff (prevH l j) (rd_T54 l (j : Int))
    have hp0 : 0 < j → prevH l j = (rd_T54 l ((j - 1 : Nat) : Int)).f0 := fun h => by unfold prevH; rw [if_neg (by omega)]
    have hp1 : j = 0 → prevH l j = 0 := fun h => by unfold prevH; rw [if_pos h]
    have hd2 : ∀ z, worthW z (rd_T54 l (j : Int) :: l.drop (j + 1)) = worthW (wrap64 (z + (rd_T54 l (j : Int)).f1)) (l.drop (j + 1)) := fun z => rfl
    simp only [crossbarref28_Check.l0]
    rw [if_pos (by omega), if_pos (by omega), dropH_at l j hj, hd2]
    simp only [hFrom, Bool.and_eq_true]
    have no : ¬ holdB (prevH l j) (rd_T54 l (j : Int)) = true → (some 1 : Option Int) = some (if (holdB (prevH l j) (rd_T54 l (j : Int)) = true ∧ hFrom (rd_T54 l (j : Int)).f0 (l.drop (j + 1)) = true) ∧ worthW (wrap64 (n + (rd_T54 l (j : Int)).f1)) (l.drop (j + 1)) ≤ 1099511627776 then 0 else 1) := fun h => by
      rw [if_neg (fun h2 => h h2.1.1)]
    have hw : ∀ u : Int, 0 ≤ u → u ≤ 1099511627776 → wrap64 (n + u) = n + u := fun u h1 h2 => by unfold wrap64; omega
    by_cases c0 : (rd_T54 l (j : Int)).f0 < 1
    · rw [if_pos c0]
      exact no (fun h => by have := (hx.1 h).1; omega)
    · rw [if_neg c0, rwithin_is, Option.bind_some]
      by_cases c1 : 0 ≤ (rd_T54 l (j : Int)).f0 ∧ (rd_T54 l (j : Int)).f0 ≤ 1099511627776
      · rw [if_pos (decide_eq_true c1)]
        have tail : prevH l j < (rd_T54 l (j : Int)).f0 → ((crossbarref28_within.f (rd_T54 l (j : Int)).f1).bind fun t194 => if t194 = true then (crossbarref28_within.f (rd_T54 l (j : Int)).f2).bind fun t195 => if t195 = true then crossbarref28_Check.l0 k (wrap64 (n + (rd_T54 l (j : Int)).f1)) (wrap64 ((j : Int) + 1)) s b l else some 1 else some 1) = some (if (holdB (prevH l j) (rd_T54 l (j : Int)) = true ∧ hFrom (rd_T54 l (j : Int)).f0 (l.drop (j + 1)) = true) ∧ worthW (wrap64 (n + (rd_T54 l (j : Int)).f1)) (l.drop (j + 1)) ≤ 1099511627776 then 0 else 1) := fun hlt => by
          rw [rwithin_is, Option.bind_some]
          by_cases c3 : 0 ≤ (rd_T54 l (j : Int)).f1 ∧ (rd_T54 l (j : Int)).f1 ≤ 1099511627776
          · rw [if_pos (decide_eq_true c3), rwithin_is, Option.bind_some]
            by_cases c4 : 0 ≤ (rd_T54 l (j : Int)).f2 ∧ (rd_T54 l (j : Int)).f2 ≤ 1099511627776
            · rw [if_pos (decide_eq_true c4), pw1 (by omega), hw _ c3.1 c3.2]
              have hn2 := ih (j + 1) k (n + (rd_T54 l (j : Int)).f1) (by omega) (by omega) (by omega) (by omega)
              rw [hp] at hn2
              rw [hn2]
              have hh : holdB (prevH l j) (rd_T54 l (j : Int)) = true := hx.2 ⟨⟨by omega, c1.2⟩, hlt, c3, c4⟩
              simp only [hh, true_and]
            · rw [if_neg (by simpa using c4)]
              exact no (fun h => c4 (hx.1 h).2.2.2)
          · rw [if_neg (by simpa using c3)]
            exact no (fun h => c3 (hx.1 h).2.2.1)
        by_cases h0 : (j : Int) > 0
        · rw [if_pos h0, show wrap64 ((j : Int) - 1) = ((j - 1 : Nat) : Int) by unfold wrap64; omega, if_pos (by omega), if_pos (by omega)]
          by_cases c2 : (rd_T54 l ((j - 1 : Nat) : Int)).f0 ≥ (rd_T54 l (j : Int)).f0
          · rw [if_pos c2]
            exact no (fun h => by have := (hx.1 h).2.1; rw [hp0 (by omega)] at this; omega)
          · rw [if_neg c2]
            exact tail (by rw [hp0 (by omega)]; omega)
        · rw [if_neg h0]
          exact tail (by rw [hp1 (by omega)]; omega)
      · rw [if_neg (by simpa using c1)]
        exact no (fun h => c1 ⟨by have := (hx.1 h).1; omega, (hx.1 h).1.2⟩)
theorem rcheck28_is (s : ByteArray) (b : Int) (l : List S54) (k : Nat) (hk : 3000 ≤ k) : crossbarref28_Check.f k s b l = some (pchk s b l) := by
  obtain ⟨k, rfl⟩ : ∃ i, k = i + 1 := ⟨k - 1, by omega⟩
  unfold crossbarref28_Check.f pchk
  by_cases hl : l.length > 1024
  · rw [if_pos (by omega), if_pos hl]
  · rw [if_neg (by omega), if_neg hl, number_is s (k + 1) (by omega), Option.bind_some]
    have j1 : crossbarref28_Check.j0 (k + 1) true s b l = some 1 := by simp only [crossbarref28_Check.j0]; rw [if_pos trivial]
    by_cases hn : numB s = true
    · rw [if_pos hn, rwithin_is, Option.bind_some]
      by_cases hb : 0 ≤ b ∧ b ≤ 1099511627776
      · rw [decide_eq_true hb]
        simp only [crossbarref28_Check.j0]
        have := rcheck28_l0 s b l (by omega) hb l.length 0 k b (by omega) (by omega) (by omega) hb.1
        rw [show ((0 : Nat) : Int) = 0 from rfl] at this
        rw [if_neg (by simp), this]
        have e : prevH l 0 = 0 := by unfold prevH; rw [if_pos rfl]
        rw [e, List.drop_zero]
        congr 1
        by_cases hh : hFrom 0 l = true ∧ worthW b l ≤ 1099511627776
        · rw [if_pos hh, if_pos ⟨hn, hb, hh.1, hh.2⟩]
        · rw [if_neg hh, if_neg (fun h => hh ⟨h.2.2.1, h.2.2.2⟩)]
      · rw [decide_eq_false hb, Bool.not_false, j1, if_neg (fun h => hb h.2.1)]
    · rw [if_neg hn, j1, if_neg (fun h => hn h.1)]
end Go.Proofs.YtldpacphackdjaaDoor.Print
