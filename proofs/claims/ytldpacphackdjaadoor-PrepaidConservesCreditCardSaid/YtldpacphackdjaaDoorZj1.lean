/- Plain facts on one step of a script of operations on an account: what it leaves is valid and worth what the law says. Conditions: a valid account, numbers in range. -/
import Derived.Test.YtldpacphackdjaaDoorZa6
namespace Go.Proofs.YtldpacphackdjaaDoor.Print
open Go.RowKit Go.Proofs.YtldpacphackdjaaDoorW.PrintWords Go.Proofs.YtldpacphackdjaaDoorW.PrintLast Go.Proofs.YtldpacphackdjaaDoorW.PrintMore
set_option linter.unusedVariables false
set_option linter.unusedSimpArgs false
theorem cons_reserve {s : ByteArray} {b : Int} {l : List S54} (ha : Acc s b l) (tl : List S70) (ref now : Int) :
    ∃ r1 r2 r3 r4 r5, prepaid_Reserve.f s b l tl ref now = some (r1, r2, r3, r4, r5) ∧ (r5 = 0 → r1 = s ∧ Acc s r2 r3 ∧ r2 + sumU r3 = b + sumU l) := by
  by_cases hok : ROk s b l tl ref now
  · exact ⟨_, _, _, _, _, reserve_ok hok, fun _ => ⟨rfl, acc_reserve hok, by rw [put_sum]; omega⟩⟩
  · obtain ⟨e, he, hne⟩ := reserve_err hok
    exact ⟨_, _, _, _, _, he, fun h => absurd h hne⟩
/-- The units held for a call. -/
def heldU (ref : Int) (l : List S54) : Int := if foundH ref l = true then (rd_T54 l (placeH ref l : Int)).f1 else 0
theorem heldU_bd {s : ByteArray} {b : Int} {l : List S54} (ha : Acc s b l) (ref : Int) : 0 ≤ heldU ref l ∧ b + heldU ref l ≤ 1099511627776 := by
  have hb := ha.bal
  unfold heldU
  cases hf : foundH ref l with
  | true =>
    have := units_bd ha _ (found_lt hf)
    rw [if_pos rfl]
    omega
  | false =>
    rw [if_neg (by simp)]
    omega
theorem cons_settle {s : ByteArray} {b : Int} {l : List S54} (ha : Acc s b l) (ref n : Int) (hn : -9223372036854775808 ≤ n ∧ n ≤ 9223372036854775807) :
    ∃ r1 r2 r3 r4, prepaid_Settle.f s b l ref n = some (r1, r2, r3, r4) ∧ (r4 = 0 → r1 = s ∧ Acc s r2 r3 ∧ r2 + sumU r3 = b + sumU l - mn n (b + heldU ref l)) := by
  by_cases hok : Acc s b l ∧ 0 ≤ n ∧ foundH ref l = true
  · obtain ⟨_, h0, hf⟩ := hok
    have hi := found_lt hf
    have hbd := units_bd ha _ hi
    have hr := restB_bd ha.bal.1 hbd.1 hbd.2.2.1 h0 hn.2
    refine ⟨_, _, _, _, settle_ok ha ref n h0 hf, fun _ => ⟨rfl, acc_settle ha _ hi _ hr.1 hr.2, ?_⟩⟩
    rw [restB_is ha.bal.1 hbd.1 hbd.2.2.1 h0 hn.2, sumU_drop l _ hi]
    have hh : heldU ref l = (rd_T54 l (placeH ref l : Int)).f1 := by unfold heldU; rw [if_pos hf]
    rw [hh]
    unfold mx mn
    split <;> split <;> omega
  · obtain ⟨e, he, hne, _⟩ := settle_no ref n hok
    exact ⟨_, _, _, _, he, fun h => absurd h hne⟩
theorem cons_want {s : ByteArray} {b : Int} {l : List S54} (ha : Acc s b l) (ref n : Int) {r2 : Int} {r3 : List S54} (h2 : Acc s r2 r3) (h3 : r2 + sumU r3 = b + sumU l - mn n (b + heldU ref l)) :
    r2 + sumU r3 = wrap64 (b + sumU l - if wrap64 (b + heldU ref l) < n then wrap64 (b + heldU ref l) else n) := by
  have h4 := heldU_bd ha ref
  have h5 := ha.bal
  have h6 := h2.bal
  have h7 := h2.sum
  have h8 := (sumU_bd _ _ h2.holds).1
  have e : (if b + heldU ref l < n then b + heldU ref l else n) = mn n (b + heldU ref l) := by unfold mn; split <;> (first | omega | (split <;> omega))
  rw [show wrap64 (b + heldU ref l) = b + heldU ref l by unfold wrap64; omega, e, ← h3]
  unfold wrap64
  omega
theorem cons_want2 {s : ByteArray} {b : Int} {l : List S54} (n : Int) {r2 : Int} {r3 : List S54} (h2 : Acc s r2 r3) (h3 : r2 + sumU r3 = b + sumU l + n) : r2 + sumU r3 = wrap64 (b + sumU l + n) := by
  have h6 := h2.bal
  have h7 := h2.sum
  have h8 := (sumU_bd _ _ h2.holds).1
  rw [← h3]
  unfold wrap64
  omega
theorem cons_deposit {s : ByteArray} {b : Int} {l : List S54} (ha : Acc s b l) (n : Int) :
    ∃ r1 r2 r3 r4, prepaid_Deposit.f s b l n = some (r1, r2, r3, r4) ∧ (r4 = 0 → r1 = s ∧ Acc s r2 r3 ∧ r2 + sumU r3 = b + sumU l + n ∧ 0 ≤ n ∧ n ≤ 1099511627776) := by
  by_cases hok : Acc s b l ∧ 0 ≤ n ∧ b + sumU l + n ≤ 1099511627776
  · have h1 := ha.bal
    have h2 := (sumU_bd _ _ ha.holds).1
    exact ⟨_, _, _, _, deposit_ok ha n hok.2.1 hok.2.2, fun _ => ⟨rfl, acc_deposit ha n hok.2.1 hok.2.2, by omega, hok.2.1, by omega⟩⟩
  · obtain ⟨e, he, hne⟩ := deposit_no n hok
    exact ⟨_, _, _, _, he, fun h => by omega⟩
theorem cons_find {s : ByteArray} {b : Int} {l : List S54} (ha : Acc s b l) (ref : Int) (k : Nat) (hk : 2000 ≤ k) :
    ∃ r, crossbarref28_Find.f k s b l ref = some r ∧ (0 ≤ r → r < l.length ∧ (rd_T54 l r).f1 = heldU ref l) ∧ (¬ 0 ≤ r → heldU ref l = 0) := by
  have hl := ha.len
  refine ⟨_, find_sorted ha.holds (by omega) ref s b k (by omega), ?_, ?_⟩
  · intro h
    cases hf : foundH ref l with
    | true =>
      have := found_lt hf
      rw [if_pos rfl]
      exact ⟨by omega, by unfold heldU; rw [if_pos hf]⟩
    | false => rw [hf, if_neg (by simp)] at h; omega
  · intro h
    cases hf : foundH ref l with
    | true => rw [hf, if_pos rfl] at h; omega
    | false => unfold heldU; rw [if_neg (by rw [hf]; simp)]
theorem cons_worth {s : ByteArray} {b : Int} {l : List S54} (ha : Acc s b l) (k : Nat) (hk : 2000 ≤ k) : prepaid_Worth.f k s b l = some (b + sumU l) := by
  have hl := ha.len
  rw [worth_is s b l (by omega) k (by omega), acc_worth ha.len ha.bal ha.holds]
theorem cons_check {s : ByteArray} {b : Int} {l : List S54} (ha : Acc s b l) (k : Nat) (hk : 3000 ≤ k) : prepaid_Check.f k s b l = some 0 := by
  rw [pcheck_is s b l k hk, (pchk_zero s b l).2 ha]
end Go.Proofs.YtldpacphackdjaaDoor.Print
