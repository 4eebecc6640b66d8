/- That prepaid.Reserve answers what its Lean function answers. -/
import Derived.Test.YtldpacphackdjaaDoorVaHPResB
import Derived.Test.YtldpacphackdjaaDoorVaHPResC
import Derived.Test.YtldpacphackdjaaDoorVaHPResD
import Derived.Test.YtldpacphackdjaaDoorVaHPResE
import Derived.Test.YtldpacphackdjaaDoorVaHPResF
import Derived.Test.YtldpacphackdjaaDoorVaHPResG
namespace Go.Proofs.YtldpacphackdjaaDoor.Print
open Go.RowKit Go.Proofs.YtldpacphackdjaaDoorW.PrintWords Go.Proofs.YtldpacphackdjaaDoorW.PrintLast Go.Proofs.YtldpacphackdjaaDoorW.PrintMore
set_option linter.unusedVariables false
set_option linter.unusedSimpArgs false
theorem prepaid_Reserve.calls (s : ByteArray) (b : Int) (A0 : Option Addr) (c0 : Nat) (l : List S54) (At : Option Addr) (ct : Nat) (tl : List S70) (a2 a3 : Int) (r1 : ByteArray) (r2 : Int) (r3 : List S54) (r4 r5 : Int) (w : World) (hr : Kd.C k54 w A0 l.length l) (hc : l.length ≤ c0) (ht : Kd.C k70 w At tl.length tl) (htc : tl.length ≤ ct) (h : prepaid_Reserve.f s b l tl a2 a3 = some (r1, r2, r3, r4, r5)) :
    Calls Tryd.prog 14 #[.agg #[.string s, .int .i64 b, .slice A0 l.length c0], .agg #[.slice At tl.length ct], .int .i64 a2, .int .i64 a3] w fun e w' => ∃ v0_ : Value, e = .returned (.tuple #[.agg #[.string r1, .int .i64 r2, v0_], .int .i64 r4, .int .i64 r5]) ∧ Kd.R k54 54 w' w.heap.size (fun _ => True) v0_ r3 ∧ Below w.heap.size w w' := by
  unfold prepaid_Reserve.f at h
  by_cases hp : pchk s b l = 0
  · rw [if_pos hp] at h
    by_cases hg : good tl = true
    · rw [if_pos hg] at h
      by_cases h1 : 1 ≤ a2 ∧ a2 ≤ 1099511627776
      · rw [if_pos h1] at h
        by_cases h2 : 0 ≤ a3 ∧ a3 ≤ 1099511627776
        · rw [if_pos h2] at h
          cases hf : foundH a2 l with
          | true =>
            rw [if_neg (by rw [hf]; simp)] at h
            have e1 : withH a2 a3 l = l := by unfold withH; rw [if_pos hf]
            unfold atH at h
            rw [e1] at h
            by_cases hn0 : lasts tl b a3 (rd_T54 l (placeH a2 l : Int)).f2 = 0
            · rw [if_pos (.inl hn0)] at h
              simp only [Option.some.injEq, Prod.mk.injEq] at h
              obtain ⟨rfl, rfl, rfl, rfl, rfl⟩ := h
              exact reserve_found_zero s b A0 c0 l At ct tl a2 a3 w hr hc ht htc hp hg h1 h2 hf hn0
            · by_cases hcr : (rd_T54 l (placeH a2 l : Int)).f2 + lasts tl b a3 (rd_T54 l (placeH a2 l : Int)).f2 ≤ a3
              · rw [if_pos (.inr hcr)] at h
                simp only [Option.some.injEq, Prod.mk.injEq] at h
                obtain ⟨rfl, rfl, rfl, rfl, rfl⟩ := h
                exact reserve_found_late s b A0 c0 l At ct tl a2 a3 w hr hc ht htc hp hg h1 h2 hf hn0 hcr
              · have hno : ¬ (lasts tl b a3 (rd_T54 l (placeH a2 l : Int)).f2 = 0 ∨ (rd_T54 l (placeH a2 l : Int)).f2 + lasts tl b a3 (rd_T54 l (placeH a2 l : Int)).f2 ≤ a3) := fun x => x.elim hn0 hcr
                rw [if_neg hno] at h
                simp only [Option.some.injEq, Prod.mk.injEq] at h
                obtain ⟨rfl, rfl, rfl, rfl, rfl⟩ := h
                exact reserve_found_ok s b A0 c0 l At ct tl a2 a3 w hr hc ht htc hp hg h1 h2 hf hno
          | false =>
            by_cases hl : l.length = 1024
            · rw [if_pos ⟨hf, hl⟩] at h
              simp only [Option.some.injEq, Prod.mk.injEq] at h
              obtain ⟨rfl, rfl, rfl, rfl, rfl⟩ := h
              exact reserve_full s b A0 c0 l At ct tl a2 a3 w hr hc ht htc hp hg h1 h2 hf hl
            · rw [if_neg (fun x => hl x.2)] at h
              have e1 : withH a2 a3 l = l.take (placeH a2 l) ++ (⟨a2, 0, a3⟩ : S54) :: l.drop (placeH a2 l) := by unfold withH; rw [if_neg (by rw [hf]; simp)]
              unfold atH at h
              rw [e1] at h
              by_cases hn0 : lasts tl b a3 (rd_T54 (l.take (placeH a2 l) ++ (⟨a2, 0, a3⟩ : S54) :: l.drop (placeH a2 l)) (placeH a2 l : Int)).f2 = 0
              · rw [if_pos (.inl hn0)] at h
                simp only [Option.some.injEq, Prod.mk.injEq] at h
                obtain ⟨rfl, rfl, rfl, rfl, rfl⟩ := h
                exact reserve_new_zero s b A0 c0 l At ct tl a2 a3 w hr hc ht htc hp hg h1 h2 hf hl hn0
              · by_cases hcr : (rd_T54 (l.take (placeH a2 l) ++ (⟨a2, 0, a3⟩ : S54) :: l.drop (placeH a2 l)) (placeH a2 l : Int)).f2 + lasts tl b a3 (rd_T54 (l.take (placeH a2 l) ++ (⟨a2, 0, a3⟩ : S54) :: l.drop (placeH a2 l)) (placeH a2 l : Int)).f2 ≤ a3
                · rw [if_pos (.inr hcr)] at h
                  simp only [Option.some.injEq, Prod.mk.injEq] at h
                  obtain ⟨rfl, rfl, rfl, rfl, rfl⟩ := h
                  exact reserve_new_late s b A0 c0 l At ct tl a2 a3 w hr hc ht htc hp hg h1 h2 hf hl hn0 hcr
                · have hno : ¬ (lasts tl b a3 (rd_T54 (l.take (placeH a2 l) ++ (⟨a2, 0, a3⟩ : S54) :: l.drop (placeH a2 l)) (placeH a2 l : Int)).f2 = 0 ∨ (rd_T54 (l.take (placeH a2 l) ++ (⟨a2, 0, a3⟩ : S54) :: l.drop (placeH a2 l)) (placeH a2 l : Int)).f2 + lasts tl b a3 (rd_T54 (l.take (placeH a2 l) ++ (⟨a2, 0, a3⟩ : S54) :: l.drop (placeH a2 l)) (placeH a2 l : Int)).f2 ≤ a3) := fun x => x.elim hn0 hcr
                  rw [if_neg hno] at h
                  simp only [Option.some.injEq, Prod.mk.injEq] at h
                  obtain ⟨rfl, rfl, rfl, rfl, rfl⟩ := h
                  exact reserve_new_ok s b A0 c0 l At ct tl a2 a3 w hr hc ht htc hp hg h1 h2 hf hl hno
        · rw [if_neg h2] at h
          simp only [Option.some.injEq, Prod.mk.injEq] at h
          obtain ⟨rfl, rfl, rfl, rfl, rfl⟩ := h
          exact reserve_now s b A0 c0 l At ct tl a2 a3 w hr hc ht htc hp hg h1 h2
      · rw [if_neg h1] at h
        simp only [Option.some.injEq, Prod.mk.injEq] at h
        obtain ⟨rfl, rfl, rfl, rfl, rfl⟩ := h
        exact reserve_ref s b A0 c0 l At ct tl a2 a3 w hr hc ht htc hp hg h1
    · rw [if_neg hg] at h
      simp only [Option.some.injEq, Prod.mk.injEq] at h
      obtain ⟨rfl, rfl, rfl, rfl, rfl⟩ := h
      exact reserve_tariff s b A0 c0 l At ct tl a2 a3 w hr hc ht htc hp (Bool.eq_false_iff.2 hg)
  · rw [if_neg hp] at h
    simp only [Option.some.injEq, Prod.mk.injEq] at h
    obtain ⟨rfl, rfl, rfl, rfl, rfl⟩ := h
    exact reserve_no s b A0 c0 l At ct tl a2 a3 w hr hc ht htc _ rfl hp
end Go.Proofs.YtldpacphackdjaaDoor.Print
