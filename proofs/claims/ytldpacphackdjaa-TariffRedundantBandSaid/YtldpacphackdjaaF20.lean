/- That the call of function 20 (crossbarlaw26_sane) answers what the Lean function of the same name answers, at every input at which that one answers. (Written by a program of the session, which drives the kit's printer.) -/
import Derived.Test.YtldpacphackdjaaHAfford
import Derived.Test.YtldpacphackdjaaK0
import Derived.Test.YtldpacphackdjaaFT
import Derived.Test.YtldpacphackdjaaFP
namespace Go.Proofs.Ytldpacphackdjaa.Print
open Go.RowKit Go.Proofs.YtldpacphackdjaaW.PrintWords Go.Proofs.YtldpacphackdjaaW.PrintLast Go.Proofs.YtldpacphackdjaaW.PrintMore
attribute [local go_sem] max2_int min2_int max_two min_two max_three min_three max_four min_four   -- for this text's walks alone
set_option linter.unusedVariables false
set_option linter.unusedSimpArgs false

/-! ### crossbarlaw26_sane: function 20 -/
def crossbarlaw26_sane.f (k : Nat)  : Option (Bool) := (crossbarlaw26_example.f).bind fun t130 => ((tariff_Rate.f k t130 28799).bind fun bt134 => ((tariff_Rate.f k t130 28800).bind fun bt136 => ((tariff_Price.f k t130 28798 28801).bind fun bt138 => ((tariff_Change.f k t130 0).bind fun bt140 => ((tariff_Change.f k t130 bt140.1).bind fun bt143 => ((tariff_Afford.f t130 28798 5 100).bind fun bt146 => ((tariff_Afford.f t130 28798 4 100).bind fun bt148 => (if bt134.2 = 0 then (if bt136.2 = 0 then (if bt138.2 = 0 then (if bt140.2.2 = 0 then (if bt143.2.2 = 0 then (if bt146.2 = 0 then (if bt148.2 = 0 then (if bt140.2.1 = true then (if bt143.2.1 = true then (if bt134.1 = 1 then (if bt136.1 = 3 then (if bt138.1 = 5 then (if bt140.1 = 28800 then (if bt143.1 = 86400 then (if bt146.1 = 3 then (if bt148.1 = 2 then ((tariff_Check.f k ([] : List (S42))).bind fun t150 => (some (t150 == 260))) else (some false)) else (some false)) else (some false)) else (some false)) else (some false)) else (some false)) else (some false)) else (some false)) else (some false)) else (some false)) else (some false)) else (some false)) else (some false)) else (some false)) else (some false)) else (some false)))))))))
theorem crossbarlaw26_sane.mono : ∀ k, LeO (crossbarlaw26_sane.f k ) (crossbarlaw26_sane.f (k + 1) ) := by
 intro  k
 unfold crossbarlaw26_sane.f
 repeat' first
   | (with_reducible exact tariff_Change.mono _ _ _)
   | (with_reducible exact tariff_Check.mono _ _)
   | (with_reducible exact tariff_Price.mono _ _ _ _)
   | (with_reducible exact tariff_Rate.mono _ _ _)
   | (with_reducible exact LeO.refl _)
   | (with_reducible exact LeO.none _)
   | (with_reducible refine LeO.ite ?_ ?_)
   | (with_reducible refine LeO.bind ?_ (fun _ => ?_))
   | exact tariff_Change.mono _ _ _
   | exact tariff_Check.mono _ _
   | exact tariff_Price.mono _ _ _ _
   | exact tariff_Rate.mono _ _ _
   | exact LeO.none _
   | refine LeO.ite ?_ ?_
   | refine LeO.bind ?_ (fun _ => ?_)
set_option maxHeartbeats 8000000 in
set_option maxRecDepth 100000 in
theorem crossbarlaw26_sane.calls (k : Nat)  (r : Bool) (w : World) (h : crossbarlaw26_sane.f k  = some r) (hT : r = true := by rfl) :
  Calls Try.prog 20 #[] w fun e w' => e = .returned (.bool r) ∧ Below w.heap.size w w' := by
 have HT_TRUE := Aside0.mk hT
 clear hT
 have hu24 := Try.underlying24
 have HB := Aside0.mk (Below.refl w.heap.size w)
 have H : ((crossbarlaw26_example.f).bind fun t130 => ((tariff_Rate.f k t130 28799).bind fun bt134 => ((tariff_Rate.f k t130 28800).bind fun bt136 => ((tariff_Price.f k t130 28798 28801).bind fun bt138 => ((tariff_Change.f k t130 0).bind fun bt140 => ((tariff_Change.f k t130 bt140.1).bind fun bt143 => ((tariff_Afford.f t130 28798 5 100).bind fun bt146 => ((tariff_Afford.f t130 28798 4 100).bind fun bt148 => (if bt134.2 = 0 then (if bt136.2 = 0 then (if bt138.2 = 0 then (if bt140.2.2 = 0 then (if bt143.2.2 = 0 then (if bt146.2 = 0 then (if bt148.2 = 0 then (if bt140.2.1 = true then (if bt143.2.1 = true then (if bt134.1 = 1 then (if bt136.1 = 3 then (if bt138.1 = 5 then (if bt140.1 = 28800 then (if bt143.1 = 86400 then (if bt146.1 = 3 then (if bt148.1 = 2 then ((tariff_Check.f k ([] : List (S42))).bind fun t150 => (some (t150 == 260))) else (some false)) else (some false)) else (some false)) else (some false)) else (some false)) else (some false)) else (some false)) else (some false)) else (some false)) else (some false)) else (some false)) else (some false)) else (some false)) else (some false)) else (some false)) else (some false)))))))))) = some r := h
 clear h
 replace H := Option.bind_eq_some_iff.mp H
 obtain ⟨t130, A10, H⟩ := H
 replace H : ((tariff_Rate.f k t130 28799).bind fun bt134 => ((tariff_Rate.f k t130 28800).bind fun bt136 => ((tariff_Price.f k t130 28798 28801).bind fun bt138 => ((tariff_Change.f k t130 0).bind fun bt140 => ((tariff_Change.f k t130 bt140.1).bind fun bt143 => ((tariff_Afford.f t130 28798 5 100).bind fun bt146 => ((tariff_Afford.f t130 28798 4 100).bind fun bt148 => (if bt134.2 = 0 then (if bt136.2 = 0 then (if bt138.2 = 0 then (if bt140.2.2 = 0 then (if bt143.2.2 = 0 then (if bt146.2 = 0 then (if bt148.2 = 0 then (if bt140.2.1 = true then (if bt143.2.1 = true then (if bt134.1 = 1 then (if bt136.1 = 3 then (if bt138.1 = 5 then (if bt140.1 = 28800 then (if bt143.1 = 86400 then (if bt146.1 = 3 then (if bt148.1 = 2 then ((tariff_Check.f k ([] : List (S42))).bind fun t150 => (some (t150 == 260))) else (some false)) else (some false)) else (some false)) else (some false)) else (some false)) else (some false)) else (some false)) else (some false)) else (some false)) else (some false)) else (some false)) else (some false)) else (some false)) else (some false)) else (some false)) else (some false))))))))) = some r := H
 have A1 := Aside0.mk A10
 clear A10
 replace H := Option.bind_eq_some_iff.mp H
 obtain ⟨⟨t134, t135⟩, A20, H⟩ := H
 replace H : ((tariff_Rate.f k t130 28800).bind fun bt136 => ((tariff_Price.f k t130 28798 28801).bind fun bt138 => ((tariff_Change.f k t130 0).bind fun bt140 => ((tariff_Change.f k t130 bt140.1).bind fun bt143 => ((tariff_Afford.f t130 28798 5 100).bind fun bt146 => ((tariff_Afford.f t130 28798 4 100).bind fun bt148 => (if t135 = 0 then (if bt136.2 = 0 then (if bt138.2 = 0 then (if bt140.2.2 = 0 then (if bt143.2.2 = 0 then (if bt146.2 = 0 then (if bt148.2 = 0 then (if bt140.2.1 = true then (if bt143.2.1 = true then (if t134 = 1 then (if bt136.1 = 3 then (if bt138.1 = 5 then (if bt140.1 = 28800 then (if bt143.1 = 86400 then (if bt146.1 = 3 then (if bt148.1 = 2 then ((tariff_Check.f k ([] : List (S42))).bind fun t150 => (some (t150 == 260))) else (some false)) else (some false)) else (some false)) else (some false)) else (some false)) else (some false)) else (some false)) else (some false)) else (some false)) else (some false)) else (some false)) else (some false)) else (some false)) else (some false)) else (some false)) else (some false)))))))) = some r := H
 have A2 := Aside0.mk A20
 clear A20
 replace H := Option.bind_eq_some_iff.mp H
 obtain ⟨⟨t136, t137⟩, A30, H⟩ := H
 replace H : ((tariff_Price.f k t130 28798 28801).bind fun bt138 => ((tariff_Change.f k t130 0).bind fun bt140 => ((tariff_Change.f k t130 bt140.1).bind fun bt143 => ((tariff_Afford.f t130 28798 5 100).bind fun bt146 => ((tariff_Afford.f t130 28798 4 100).bind fun bt148 => (if t135 = 0 then (if t137 = 0 then (if bt138.2 = 0 then (if bt140.2.2 = 0 then (if bt143.2.2 = 0 then (if bt146.2 = 0 then (if bt148.2 = 0 then (if bt140.2.1 = true then (if bt143.2.1 = true then (if t134 = 1 then (if t136 = 3 then (if bt138.1 = 5 then (if bt140.1 = 28800 then (if bt143.1 = 86400 then (if bt146.1 = 3 then (if bt148.1 = 2 then ((tariff_Check.f k ([] : List (S42))).bind fun t150 => (some (t150 == 260))) else (some false)) else (some false)) else (some false)) else (some false)) else (some false)) else (some false)) else (some false)) else (some false)) else (some false)) else (some false)) else (some false)) else (some false)) else (some false)) else (some false)) else (some false)) else (some false))))))) = some r := H
 have A3 := Aside0.mk A30
 clear A30
 replace H := Option.bind_eq_some_iff.mp H
 obtain ⟨⟨t138, t139⟩, A40, H⟩ := H
 replace H : ((tariff_Change.f k t130 0).bind fun bt140 => ((tariff_Change.f k t130 bt140.1).bind fun bt143 => ((tariff_Afford.f t130 28798 5 100).bind fun bt146 => ((tariff_Afford.f t130 28798 4 100).bind fun bt148 => (if t135 = 0 then (if t137 = 0 then (if t139 = 0 then (if bt140.2.2 = 0 then (if bt143.2.2 = 0 then (if bt146.2 = 0 then (if bt148.2 = 0 then (if bt140.2.1 = true then (if bt143.2.1 = true then (if t134 = 1 then (if t136 = 3 then (if t138 = 5 then (if bt140.1 = 28800 then (if bt143.1 = 86400 then (if bt146.1 = 3 then (if bt148.1 = 2 then ((tariff_Check.f k ([] : List (S42))).bind fun t150 => (some (t150 == 260))) else (some false)) else (some false)) else (some false)) else (some false)) else (some false)) else (some false)) else (some false)) else (some false)) else (some false)) else (some false)) else (some false)) else (some false)) else (some false)) else (some false)) else (some false)) else (some false)))))) = some r := H
 have A4 := Aside0.mk A40
 clear A40
 replace H := Option.bind_eq_some_iff.mp H
 obtain ⟨⟨t140, t141, t142⟩, A50, H⟩ := H
 replace H : ((tariff_Change.f k t130 t140).bind fun bt143 => ((tariff_Afford.f t130 28798 5 100).bind fun bt146 => ((tariff_Afford.f t130 28798 4 100).bind fun bt148 => (if t135 = 0 then (if t137 = 0 then (if t139 = 0 then (if t142 = 0 then (if bt143.2.2 = 0 then (if bt146.2 = 0 then (if bt148.2 = 0 then (if t141 = true then (if bt143.2.1 = true then (if t134 = 1 then (if t136 = 3 then (if t138 = 5 then (if t140 = 28800 then (if bt143.1 = 86400 then (if bt146.1 = 3 then (if bt148.1 = 2 then ((tariff_Check.f k ([] : List (S42))).bind fun t150 => (some (t150 == 260))) else (some false)) else (some false)) else (some false)) else (some false)) else (some false)) else (some false)) else (some false)) else (some false)) else (some false)) else (some false)) else (some false)) else (some false)) else (some false)) else (some false)) else (some false)) else (some false))))) = some r := H
 have A5 := Aside0.mk A50
 clear A50
 replace H := Option.bind_eq_some_iff.mp H
 obtain ⟨⟨t143, t144, t145⟩, A60, H⟩ := H
 replace H : ((tariff_Afford.f t130 28798 5 100).bind fun bt146 => ((tariff_Afford.f t130 28798 4 100).bind fun bt148 => (if t135 = 0 then (if t137 = 0 then (if t139 = 0 then (if t142 = 0 then (if t145 = 0 then (if bt146.2 = 0 then (if bt148.2 = 0 then (if t141 = true then (if t144 = true then (if t134 = 1 then (if t136 = 3 then (if t138 = 5 then (if t140 = 28800 then (if t143 = 86400 then (if bt146.1 = 3 then (if bt148.1 = 2 then ((tariff_Check.f k ([] : List (S42))).bind fun t150 => (some (t150 == 260))) else (some false)) else (some false)) else (some false)) else (some false)) else (some false)) else (some false)) else (some false)) else (some false)) else (some false)) else (some false)) else (some false)) else (some false)) else (some false)) else (some false)) else (some false)) else (some false)))) = some r := H
 have A6 := Aside0.mk A60
 clear A60
 replace H := Option.bind_eq_some_iff.mp H
 obtain ⟨⟨t146, t147⟩, A70, H⟩ := H
 replace H : ((tariff_Afford.f t130 28798 4 100).bind fun bt148 => (if t135 = 0 then (if t137 = 0 then (if t139 = 0 then (if t142 = 0 then (if t145 = 0 then (if t147 = 0 then (if bt148.2 = 0 then (if t141 = true then (if t144 = true then (if t134 = 1 then (if t136 = 3 then (if t138 = 5 then (if t140 = 28800 then (if t143 = 86400 then (if t146 = 3 then (if bt148.1 = 2 then ((tariff_Check.f k ([] : List (S42))).bind fun t150 => (some (t150 == 260))) else (some false)) else (some false)) else (some false)) else (some false)) else (some false)) else (some false)) else (some false)) else (some false)) else (some false)) else (some false)) else (some false)) else (some false)) else (some false)) else (some false)) else (some false)) else (some false))) = some r := H
 have A7 := Aside0.mk A70
 clear A70
 replace H := Option.bind_eq_some_iff.mp H
 obtain ⟨⟨t148, t149⟩, A80, H⟩ := H
 replace H : (if t135 = 0 then (if t137 = 0 then (if t139 = 0 then (if t142 = 0 then (if t145 = 0 then (if t147 = 0 then (if t149 = 0 then (if t141 = true then (if t144 = true then (if t134 = 1 then (if t136 = 3 then (if t138 = 5 then (if t140 = 28800 then (if t143 = 86400 then (if t146 = 3 then (if t148 = 2 then ((tariff_Check.f k ([] : List (S42))).bind fun t150 => (some (t150 == 260))) else (some false)) else (some false)) else (some false)) else (some false)) else (some false)) else (some false)) else (some false)) else (some false)) else (some false)) else (some false)) else (some false)) else (some false)) else (some false)) else (some false)) else (some false)) else (some false)) = some r := H
 have A8 := Aside0.mk A80
 clear A80
 by_cases c9 : t135 = 0
 ·rw [if_pos c9] at H
  have c9b0 : (t135 == 0) = true := beq_iff_eq.mpr c9
  have c9b1 : (t135 != 0) = false := bne_eq_false_iff_eq.mpr c9
  clear c9
  by_cases c10 : t137 = 0
  ·rw [if_pos c10] at H
   have c10b0 : (t137 == 0) = true := beq_iff_eq.mpr c10
   have c10b1 : (t137 != 0) = false := bne_eq_false_iff_eq.mpr c10
   clear c10
   by_cases c11 : t139 = 0
   ·rw [if_pos c11] at H
    have c11b0 : (t139 == 0) = true := beq_iff_eq.mpr c11
    have c11b1 : (t139 != 0) = false := bne_eq_false_iff_eq.mpr c11
    clear c11
    by_cases c12 : t142 = 0
    ·rw [if_pos c12] at H
     have c12b0 : (t142 == 0) = true := beq_iff_eq.mpr c12
     have c12b1 : (t142 != 0) = false := bne_eq_false_iff_eq.mpr c12
     clear c12
     by_cases c13 : t145 = 0
     ·rw [if_pos c13] at H
      have c13b0 : (t145 == 0) = true := beq_iff_eq.mpr c13
      have c13b1 : (t145 != 0) = false := bne_eq_false_iff_eq.mpr c13
      clear c13
      by_cases c14 : t147 = 0
      ·rw [if_pos c14] at H
       have c14b0 : (t147 == 0) = true := beq_iff_eq.mpr c14
       have c14b1 : (t147 != 0) = false := bne_eq_false_iff_eq.mpr c14
       clear c14
       by_cases c15 : t149 = 0
       ·rw [if_pos c15] at H
        have c15b0 : (t149 == 0) = true := beq_iff_eq.mpr c15
        have c15b1 : (t149 != 0) = false := bne_eq_false_iff_eq.mpr c15
        clear c15
        by_cases c16 : t141 = true
        ·subst c16
         have H1 : (if t144 = true then (if t134 = 1 then (if t136 = 3 then (if t138 = 5 then (if t140 = 28800 then (if t143 = 86400 then (if t146 = 3 then (if t148 = 2 then ((tariff_Check.f k ([] : List (S42))).bind fun t150 => (some (t150 == 260))) else (some false)) else (some false)) else (some false)) else (some false)) else (some false)) else (some false)) else (some false)) else (some false)) = some r := by rw [if_pos rfl] at H; exact H
         clear H
         have H := H1
         clear H1
         by_cases c17 : t144 = true
         ·subst c17
          have H1 : (if t134 = 1 then (if t136 = 3 then (if t138 = 5 then (if t140 = 28800 then (if t143 = 86400 then (if t146 = 3 then (if t148 = 2 then ((tariff_Check.f k ([] : List (S42))).bind fun t150 => (some (t150 == 260))) else (some false)) else (some false)) else (some false)) else (some false)) else (some false)) else (some false)) else (some false)) = some r := by rw [if_pos rfl] at H; exact H
          clear H
          have H := H1
          clear H1
          by_cases c18 : t134 = 1
          ·rw [if_pos c18] at H
           have c18b0 : (t134 == 1) = true := beq_iff_eq.mpr c18
           have c18b1 : (t134 != 1) = false := bne_eq_false_iff_eq.mpr c18
           clear c18
           by_cases c19 : t136 = 3
           ·rw [if_pos c19] at H
            have c19b0 : (t136 == 3) = true := beq_iff_eq.mpr c19
            have c19b1 : (t136 != 3) = false := bne_eq_false_iff_eq.mpr c19
            clear c19
            by_cases c20 : t138 = 5
            ·rw [if_pos c20] at H
             have c20b0 : (t138 == 5) = true := beq_iff_eq.mpr c20
             have c20b1 : (t138 != 5) = false := bne_eq_false_iff_eq.mpr c20
             clear c20
             by_cases c21 : t140 = 28800
             ·rw [if_pos c21] at H
              have c21b0 : (t140 == 28800) = true := beq_iff_eq.mpr c21
              have c21b1 : (t140 != 28800) = false := bne_eq_false_iff_eq.mpr c21
              clear c21
              by_cases c22 : t143 = 86400
              ·rw [if_pos c22] at H
               have c22b0 : (t143 == 86400) = true := beq_iff_eq.mpr c22
               have c22b1 : (t143 != 86400) = false := bne_eq_false_iff_eq.mpr c22
               clear c22
               by_cases c23 : t146 = 3
               ·rw [if_pos c23] at H
                have c23b0 : (t146 == 3) = true := beq_iff_eq.mpr c23
                have c23b1 : (t146 != 3) = false := bne_eq_false_iff_eq.mpr c23
                clear c23
                by_cases c24 : t148 = 2
                ·rw [if_pos c24] at H
                 have c24b0 : (t148 == 2) = true := beq_iff_eq.mpr c24
                 have c24b1 : (t148 != 2) = false := bne_eq_false_iff_eq.mpr c24
                 clear c24
                 replace H := Option.bind_eq_some_iff.mp H
                 obtain ⟨t150, A250, H⟩ := H
                 replace H : (some (t150 == 260)) = some r := H
                 have A25 := Aside0.mk A250
                 clear A250
                 obtain rfl := Option.some.inj H
                 go_enter Try.func20, Try.ntmps20
                 go_wp2_with (first | ((with_reducible refine gate_callee (f := 48) rfl ?_); refine goesL_ (some 19) rfl rfl Try.func48 (by kernel_rfl) rfl #[] rfl (by (try simp only [List.map_toArray, List.map_cons, List.map_nil]); first | done | rfl | (simp only [List.length_drop, List.length_take]; rfl)) ?_; (with_reducible refine (crossbarlaw26_example.calls  t130 _ A1.out).mono ?_); rintro e w26 ⟨v131, rfl, ho0, hb⟩; refine ⟨_, rfl, ?_⟩; have n0_ := Aside0.mk (Kd.R_lower ho0 (below_size (by repeat (first | (with_reducible first | exact HB.out | apply below_alloc | apply pw_below_drewN | apply below_drew1) | exact HB.out)))); have n1_ := Aside0.mk (below_step (by repeat (first | (with_reducible first | exact HB.out | apply below_alloc | apply pw_below_drewN | apply below_drew1) | exact HB.out)) hb); clear HB; have HO132 := n0_; have HB := n1_; clear n0_ n1_; (try clear hb); (try clear hb2); (try clear hk); (try clear hi); (try clear ho0)) | ((with_reducible refine gate_dst (N := 1) rfl ?_); refine box_event ?hg (N := 1) ?hd (cs := #[.slice none 0 0]) (t := 24) ?hr ?_; (case hd => rfl); (case hg => rfl); (case hr => first | (go_simp; done) | (go_simp; rfl)); intro gb133 hg w27 hbox hb; have n0_ := Aside0.mk (Kd.R_below (by (with_reducible repeat (first | apply Kd.R_alloc | apply Kd.R_drewN | apply Kd.R_drew)); exact HO132.out) hb); have n1_ := Aside0.mk (below_step (by repeat (first | (with_reducible first | exact HB.out | apply below_alloc | apply pw_below_drewN | apply below_drew1) | exact HB.out)) hb); have n2_ := Aside0.mk (hbox); have n3_ := Aside0.mk ((by rw [hg]; exact (below_size (by repeat (first | (with_reducible first | exact HB.out | apply below_alloc | apply pw_below_drewN | apply below_drew1) | exact HB.out))) : w.heap.size ≤ gb133)); have n4_ := Aside0.mk ((by rw [hg]; exact (below_size (by repeat (first | (with_reducible first | exact HB.out | apply below_alloc | apply pw_below_drewN | apply below_drew1) | exact HB.out))) : w.heap.size ≤ gb133)); clear HO132; clear HB; have HO132 := n0_; have HB := n1_; have BK133 := n2_; have GW133 := n3_; have GE133 := n4_; clear n0_ n1_ n2_ n3_ n4_; clear hb hbox hg; obtain ⟨Ao28, co28, eo28⟩ := Kd.R_slice HO132.out; subst eo28; have hcz29_0 : w27.cell? ⟨gb133, 0, none⟩ = some (.slice none 0 0) := (blk_cell BK133.out 0).trans rfl; have hfz29_0 := blk_frozen BK133.out 0) | ((with_reducible refine gate_callee (f := 22) rfl ?_); refine goesL_ (some 22) rfl rfl Try.func22 (by kernel_rfl) rfl #[.agg #[.slice Ao28 t130.length co28], .int .i64 28799] rfl (by (try simp only [List.map_toArray, List.map_cons, List.map_nil]); first | done | rfl | (simp only [List.length_drop, List.length_take]; rfl)) ?_; (with_reducible refine (tariff_Rate.calls k _ _ t130 28799 t134 t135 _ ?side1 ?side2 A2.out).mono ?_); (case side1 => refine (Kd.R_reads' (e := 42) (base := w.heap.size) (ok := fun k_ => True) (n := t130.length) (c := co28) ?_).2.2; exact (by (with_reducible repeat (first | apply Kd.R_alloc | apply Kd.R_drewN | apply Kd.R_drew)); exact (Kd.R_mono (Kd.R_far (p := ⟨gb133, 0, none⟩) (Kd.R_types HO132.out BK133.out (by decide)) (fun _ hk => hk.2) (.slice Ao28 t130.length co28)) (fun _ h_ => h_.1)))); (case side2 => exact (Kd.R_reads' HO132.out).2.1); rintro e w30 ⟨rfl, hb⟩; refine ⟨_, rfl, ?_⟩; have n0_ := Aside0.mk (Kd.R_below (by (with_reducible repeat (first | apply Kd.R_alloc | apply Kd.R_drewN | apply Kd.R_drew)); exact (Kd.R_mono (Kd.R_far (p := ⟨gb133, 0, none⟩) (Kd.R_types HO132.out BK133.out (by decide)) (fun _ hk => hk.2) (.slice Ao28 t130.length co28)) (fun _ h_ => h_.1))) hb); have n1_ := Aside0.mk (blk_below (g := gb133) (o := .cells #[.slice Ao28 t130.length co28] 24 (0, 0)) (by (with_reducible repeat (first | refine blk_drewN ?_ _ | refine blk_drew ?_ | refine blk_alloc ?_ _)); refine blk_put (cs := #[.slice none 0 0]) ?_ 0 _ rfl; (with_reducible repeat (first | refine blk_drewN ?_ _ | refine blk_drew ?_ | refine blk_alloc ?_ _)); exact BK133.out) hb); have n2_ := Aside0.mk (below_step (by repeat (first | (with_reducible first | exact HB.out | apply below_alloc | apply pw_below_drewN | apply below_drew1 | refine below_set ?_ GE133.out) | exact HB.out)) hb); clear HO132; clear BK133; clear HB; have HO132 := n0_; have BK133 := n1_; have HB := n2_; clear n0_ n1_ n2_; (try clear hb); (try clear hb2); (try clear hk); (try clear hi); have hcz31_0 : w30.cell? ⟨gb133, 0, none⟩ = some (.slice Ao28 t130.length co28) := (blk_cell BK133.out 0).trans rfl; have hfz31_0 := blk_frozen BK133.out 0) | ((with_reducible refine gate_callee (f := 22) rfl ?_); refine goesL_ (some 27) rfl rfl Try.func22 (by kernel_rfl) rfl #[.agg #[.slice Ao28 t130.length co28], .int .i64 28800] rfl (by (try simp only [List.map_toArray, List.map_cons, List.map_nil]); first | done | rfl | (simp only [List.length_drop, List.length_take]; rfl)) ?_; (with_reducible refine (tariff_Rate.calls k _ _ t130 28800 t136 t137 _ ?side1 ?side2 A3.out).mono ?_); (case side1 => repeat (first | exact (Kd.R_reads' HO132.out).2.2 | (with_reducible refine Kd.C_alloc ?_ _) | (with_reducible refine Kd.C_drewN ?_ _) | (with_reducible refine Kd.C_drew ?_))); (case side2 => exact (Kd.R_reads' HO132.out).2.1); rintro e w32 ⟨rfl, hb⟩; refine ⟨_, rfl, ?_⟩; have n0_ := Aside0.mk (Kd.R_below (by (with_reducible repeat (first | apply Kd.R_alloc | apply Kd.R_drewN | apply Kd.R_drew)); exact HO132.out) hb); have n1_ := Aside0.mk (blk_below (g := gb133) (o := .cells #[.slice Ao28 t130.length co28] 24 (0, 0)) (by (with_reducible repeat (first | refine blk_drewN ?_ _ | refine blk_drew ?_ | refine blk_alloc ?_ _)); exact BK133.out) hb); have n2_ := Aside0.mk (below_step (by repeat (first | (with_reducible first | exact HB.out | apply below_alloc | apply pw_below_drewN | apply below_drew1 | refine below_set ?_ GE133.out) | exact HB.out)) hb); clear HO132; clear BK133; clear HB; have HO132 := n0_; have BK133 := n1_; have HB := n2_; clear n0_ n1_ n2_; (try clear hb); (try clear hb2); (try clear hk); (try clear hi); have hcz33_0 : w32.cell? ⟨gb133, 0, none⟩ = some (.slice Ao28 t130.length co28) := (blk_cell BK133.out 0).trans rfl; have hfz33_0 := blk_frozen BK133.out 0) | ((with_reducible refine gate_callee (f := 28) rfl ?_); refine goesL_ (some 32) rfl rfl Try.func28 (by kernel_rfl) rfl #[.agg #[.slice Ao28 t130.length co28], .int .i64 28798, .int .i64 28801] rfl (by (try simp only [List.map_toArray, List.map_cons, List.map_nil]); first | done | rfl | (simp only [List.length_drop, List.length_take]; rfl)) ?_; (with_reducible refine (tariff_Price.calls k _ _ t130 28798 28801 t138 t139 _ ?side1 ?side2 A4.out).mono ?_); (case side1 => repeat (first | exact (Kd.R_reads' HO132.out).2.2 | (with_reducible refine Kd.C_alloc ?_ _) | (with_reducible refine Kd.C_drewN ?_ _) | (with_reducible refine Kd.C_drew ?_))); (case side2 => exact (Kd.R_reads' HO132.out).2.1); rintro e w34 ⟨rfl, hb⟩; refine ⟨_, rfl, ?_⟩; have n0_ := Aside0.mk (Kd.R_below (by (with_reducible repeat (first | apply Kd.R_alloc | apply Kd.R_drewN | apply Kd.R_drew)); exact HO132.out) hb); have n1_ := Aside0.mk (blk_below (g := gb133) (o := .cells #[.slice Ao28 t130.length co28] 24 (0, 0)) (by (with_reducible repeat (first | refine blk_drewN ?_ _ | refine blk_drew ?_ | refine blk_alloc ?_ _)); exact BK133.out) hb); have n2_ := Aside0.mk (below_step (by repeat (first | (with_reducible first | exact HB.out | apply below_alloc | apply pw_below_drewN | apply below_drew1 | refine below_set ?_ GE133.out) | exact HB.out)) hb); clear HO132; clear BK133; clear HB; have HO132 := n0_; have BK133 := n1_; have HB := n2_; clear n0_ n1_ n2_; (try clear hb); (try clear hb2); (try clear hk); (try clear hi); have hcz35_0 : w34.cell? ⟨gb133, 0, none⟩ = some (.slice Ao28 t130.length co28) := (blk_cell BK133.out 0).trans rfl; have hfz35_0 := blk_frozen BK133.out 0) | ((with_reducible refine gate_callee (f := 24) rfl ?_); refine goesL_ (some 37) rfl rfl Try.func24 (by kernel_rfl) rfl #[.agg #[.slice Ao28 t130.length co28], .int .i64 0] rfl (by (try simp only [List.map_toArray, List.map_cons, List.map_nil]); first | done | rfl | (simp only [List.length_drop, List.length_take]; rfl)) ?_; (with_reducible refine (tariff_Change.calls k _ _ t130 0 t140 true t142 _ ?side1 ?side2 A5.out).mono ?_); (case side1 => repeat (first | exact (Kd.R_reads' HO132.out).2.2 | (with_reducible refine Kd.C_alloc ?_ _) | (with_reducible refine Kd.C_drewN ?_ _) | (with_reducible refine Kd.C_drew ?_))); (case side2 => exact (Kd.R_reads' HO132.out).2.1); rintro e w36 ⟨rfl, hb⟩; refine ⟨_, rfl, ?_⟩; have n0_ := Aside0.mk (Kd.R_below (by (with_reducible repeat (first | apply Kd.R_alloc | apply Kd.R_drewN | apply Kd.R_drew)); exact HO132.out) hb); have n1_ := Aside0.mk (blk_below (g := gb133) (o := .cells #[.slice Ao28 t130.length co28] 24 (0, 0)) (by (with_reducible repeat (first | refine blk_drewN ?_ _ | refine blk_drew ?_ | refine blk_alloc ?_ _)); exact BK133.out) hb); have n2_ := Aside0.mk (below_step (by repeat (first | (with_reducible first | exact HB.out | apply below_alloc | apply pw_below_drewN | apply below_drew1 | refine below_set ?_ GE133.out) | exact HB.out)) hb); clear HO132; clear BK133; clear HB; have HO132 := n0_; have BK133 := n1_; have HB := n2_; clear n0_ n1_ n2_; (try clear hb); (try clear hb2); (try clear hk); (try clear hi); have hcz37_0 : w36.cell? ⟨gb133, 0, none⟩ = some (.slice Ao28 t130.length co28) := (blk_cell BK133.out 0).trans rfl; have hfz37_0 := blk_frozen BK133.out 0) | ((with_reducible refine gate_callee (f := 24) rfl ?_); refine goesL_ (some 44) rfl rfl Try.func24 (by kernel_rfl) rfl #[.agg #[.slice Ao28 t130.length co28], .int .i64 t140] rfl (by (try simp only [List.map_toArray, List.map_cons, List.map_nil]); first | done | rfl | (simp only [List.length_drop, List.length_take]; rfl)) ?_; (with_reducible refine (tariff_Change.calls k _ _ t130 t140 t143 true t145 _ ?side1 ?side2 A6.out).mono ?_); (case side1 => repeat (first | exact (Kd.R_reads' HO132.out).2.2 | (with_reducible refine Kd.C_alloc ?_ _) | (with_reducible refine Kd.C_drewN ?_ _) | (with_reducible refine Kd.C_drew ?_))); (case side2 => exact (Kd.R_reads' HO132.out).2.1); rintro e w38 ⟨rfl, hb⟩; refine ⟨_, rfl, ?_⟩; have n0_ := Aside0.mk (Kd.R_below (by (with_reducible repeat (first | apply Kd.R_alloc | apply Kd.R_drewN | apply Kd.R_drew)); exact HO132.out) hb); have n1_ := Aside0.mk (blk_below (g := gb133) (o := .cells #[.slice Ao28 t130.length co28] 24 (0, 0)) (by (with_reducible repeat (first | refine blk_drewN ?_ _ | refine blk_drew ?_ | refine blk_alloc ?_ _)); exact BK133.out) hb); have n2_ := Aside0.mk (below_step (by repeat (first | (with_reducible first | exact HB.out | apply below_alloc | apply pw_below_drewN | apply below_drew1 | refine below_set ?_ GE133.out) | exact HB.out)) hb); clear HO132; clear BK133; clear HB; have HO132 := n0_; have BK133 := n1_; have HB := n2_; clear n0_ n1_ n2_; (try clear hb); (try clear hb2); (try clear hk); (try clear hi); have hcz39_0 : w38.cell? ⟨gb133, 0, none⟩ = some (.slice Ao28 t130.length co28) := (blk_cell BK133.out 0).trans rfl; have hfz39_0 := blk_frozen BK133.out 0) | ((with_reducible refine gate_callee (f := 30) rfl ?_); refine goesL_ (some 50) rfl rfl Try.func30 (by kernel_rfl) rfl #[.agg #[.slice Ao28 t130.length co28], .int .i64 28798, .int .i64 5, .int .i64 100] rfl (by (try simp only [List.map_toArray, List.map_cons, List.map_nil]); first | done | rfl | (simp only [List.length_drop, List.length_take]; rfl)) ?_; (with_reducible refine (tariff_Afford.calls _ _ t130 28798 5 100 t146 t147 _ ?side1 ?side2 A7.out).mono ?_); (case side1 => repeat (first | exact (Kd.R_reads' HO132.out).2.2 | (with_reducible refine Kd.C_alloc ?_ _) | (with_reducible refine Kd.C_drewN ?_ _) | (with_reducible refine Kd.C_drew ?_))); (case side2 => exact (Kd.R_reads' HO132.out).2.1); rintro e w40 ⟨rfl, hb⟩; refine ⟨_, rfl, ?_⟩; have n0_ := Aside0.mk (Kd.R_below (by (with_reducible repeat (first | apply Kd.R_alloc | apply Kd.R_drewN | apply Kd.R_drew)); exact HO132.out) hb); have n1_ := Aside0.mk (blk_below (g := gb133) (o := .cells #[.slice Ao28 t130.length co28] 24 (0, 0)) (by (with_reducible repeat (first | refine blk_drewN ?_ _ | refine blk_drew ?_ | refine blk_alloc ?_ _)); exact BK133.out) hb); have n2_ := Aside0.mk (below_step (by repeat (first | (with_reducible first | exact HB.out | apply below_alloc | apply pw_below_drewN | apply below_drew1 | refine below_set ?_ GE133.out) | exact HB.out)) hb); clear HO132; clear BK133; clear HB; have HO132 := n0_; have BK133 := n1_; have HB := n2_; clear n0_ n1_ n2_; (try clear hb); (try clear hb2); (try clear hk); (try clear hi); have hcz41_0 : w40.cell? ⟨gb133, 0, none⟩ = some (.slice Ao28 t130.length co28) := (blk_cell BK133.out 0).trans rfl; have hfz41_0 := blk_frozen BK133.out 0) | ((with_reducible refine gate_callee (f := 30) rfl ?_); refine goesL_ (some 55) rfl rfl Try.func30 (by kernel_rfl) rfl #[.agg #[.slice Ao28 t130.length co28], .int .i64 28798, .int .i64 4, .int .i64 100] rfl (by (try simp only [List.map_toArray, List.map_cons, List.map_nil]); first | done | rfl | (simp only [List.length_drop, List.length_take]; rfl)) ?_; (with_reducible refine (tariff_Afford.calls _ _ t130 28798 4 100 t148 t149 _ ?side1 ?side2 A8.out).mono ?_); (case side1 => repeat (first | exact (Kd.R_reads' HO132.out).2.2 | (with_reducible refine Kd.C_alloc ?_ _) | (with_reducible refine Kd.C_drewN ?_ _) | (with_reducible refine Kd.C_drew ?_))); (case side2 => exact (Kd.R_reads' HO132.out).2.1); rintro e w42 ⟨rfl, hb⟩; refine ⟨_, rfl, ?_⟩; have n0_ := Aside0.mk (Kd.R_below (by (with_reducible repeat (first | apply Kd.R_alloc | apply Kd.R_drewN | apply Kd.R_drew)); exact HO132.out) hb); have n1_ := Aside0.mk (blk_below (g := gb133) (o := .cells #[.slice Ao28 t130.length co28] 24 (0, 0)) (by (with_reducible repeat (first | refine blk_drewN ?_ _ | refine blk_drew ?_ | refine blk_alloc ?_ _)); exact BK133.out) hb); have n2_ := Aside0.mk (below_step (by repeat (first | (with_reducible first | exact HB.out | apply below_alloc | apply pw_below_drewN | apply below_drew1 | refine below_set ?_ GE133.out) | exact HB.out)) hb); clear HO132; clear BK133; clear HB; have HO132 := n0_; have BK133 := n1_; have HB := n2_; clear n0_ n1_ n2_; (try clear hb); (try clear hb2); (try clear hk); (try clear hi)) | (go_at_call 26; (refine (tariff_Check.calls k _ _ ([] : List (S42)) t150 _ ?side1 ?side2 A25.out).mono ?_); (case side1 => exact Kd.C_nil _ _); (case side2 => exact Nat.le_refl _); rintro e w43 ⟨rfl, hb⟩; have n0_ := Aside0.mk (Kd.R_below (by (with_reducible repeat (first | apply Kd.R_alloc | apply Kd.R_drewN | apply Kd.R_drew)); exact HO132.out) hb); have n1_ := Aside0.mk (blk_below (g := gb133) (o := .cells #[.slice Ao28 t130.length co28] 24 (0, 0)) (by (with_reducible repeat (first | refine blk_drewN ?_ _ | refine blk_drew ?_ | refine blk_alloc ?_ _)); exact BK133.out) hb); have n2_ := Aside0.mk (below_step (by repeat (first | (with_reducible first | exact HB.out | apply below_alloc | apply pw_below_drewN | apply below_drew1 | refine below_set ?_ GE133.out) | exact HB.out)) hb); clear HO132; clear BK133; clear HB; have HO132 := n0_; have BK133 := n1_; have HB := n2_; clear n0_ n1_ n2_; (try clear hb); (try clear hb2); (try clear hk); (try clear hi)))
                 go_ret
                 exact ⟨by first | rfl | (simp [errW_none, errW_some] <;> rfl) | (simp [*, errW_none, errW_some] <;> rfl), by repeat (first | (with_reducible first | exact HB.out | apply below_alloc | apply pw_below_drewN | apply below_drew1 | refine below_set ?_ GE133.out) | exact HB.out)⟩
                ·rw [if_neg c24] at H
                 have c24b0 : (t148 == 2) = false := beq_eq_false_iff_ne.mpr c24
                 have c24b1 : (t148 != 2) = true := bne_iff_ne.mpr c24
                 exact absurd ((Option.some.inj H).trans HT_TRUE.out) (by simp)
               ·rw [if_neg c23] at H
                have c23b0 : (t146 == 3) = false := beq_eq_false_iff_ne.mpr c23
                have c23b1 : (t146 != 3) = true := bne_iff_ne.mpr c23
                exact absurd ((Option.some.inj H).trans HT_TRUE.out) (by simp)
              ·rw [if_neg c22] at H
               have c22b0 : (t143 == 86400) = false := beq_eq_false_iff_ne.mpr c22
               have c22b1 : (t143 != 86400) = true := bne_iff_ne.mpr c22
               exact absurd ((Option.some.inj H).trans HT_TRUE.out) (by simp)
             ·rw [if_neg c21] at H
              have c21b0 : (t140 == 28800) = false := beq_eq_false_iff_ne.mpr c21
              have c21b1 : (t140 != 28800) = true := bne_iff_ne.mpr c21
              exact absurd ((Option.some.inj H).trans HT_TRUE.out) (by simp)
            ·rw [if_neg c20] at H
             have c20b0 : (t138 == 5) = false := beq_eq_false_iff_ne.mpr c20
             have c20b1 : (t138 != 5) = true := bne_iff_ne.mpr c20
             exact absurd ((Option.some.inj H).trans HT_TRUE.out) (by simp)
           ·rw [if_neg c19] at H
            have c19b0 : (t136 == 3) = false := beq_eq_false_iff_ne.mpr c19
            have c19b1 : (t136 != 3) = true := bne_iff_ne.mpr c19
            exact absurd ((Option.some.inj H).trans HT_TRUE.out) (by simp)
          ·rw [if_neg c18] at H
           have c18b0 : (t134 == 1) = false := beq_eq_false_iff_ne.mpr c18
           have c18b1 : (t134 != 1) = true := bne_iff_ne.mpr c18
           exact absurd ((Option.some.inj H).trans HT_TRUE.out) (by simp)
         ·replace c17 := Bool.eq_false_iff.mpr c17
          subst c17
          have H1 : (some false) = some r := by rw [if_neg (show ¬ (false = true) by decide)] at H; exact H
          clear H
          have H := H1
          clear H1
          exact absurd ((Option.some.inj H).trans HT_TRUE.out) (by simp)
        ·replace c16 := Bool.eq_false_iff.mpr c16
         subst c16
         have H1 : (some false) = some r := by rw [if_neg (show ¬ (false = true) by decide)] at H; exact H
         clear H
         have H := H1
         clear H1
         exact absurd ((Option.some.inj H).trans HT_TRUE.out) (by simp)
       ·rw [if_neg c15] at H
        have c15b0 : (t149 == 0) = false := beq_eq_false_iff_ne.mpr c15
        have c15b1 : (t149 != 0) = true := bne_iff_ne.mpr c15
        exact absurd ((Option.some.inj H).trans HT_TRUE.out) (by simp)
      ·rw [if_neg c14] at H
       have c14b0 : (t147 == 0) = false := beq_eq_false_iff_ne.mpr c14
       have c14b1 : (t147 != 0) = true := bne_iff_ne.mpr c14
       exact absurd ((Option.some.inj H).trans HT_TRUE.out) (by simp)
     ·rw [if_neg c13] at H
      have c13b0 : (t145 == 0) = false := beq_eq_false_iff_ne.mpr c13
      have c13b1 : (t145 != 0) = true := bne_iff_ne.mpr c13
      exact absurd ((Option.some.inj H).trans HT_TRUE.out) (by simp)
    ·rw [if_neg c12] at H
     have c12b0 : (t142 == 0) = false := beq_eq_false_iff_ne.mpr c12
     have c12b1 : (t142 != 0) = true := bne_iff_ne.mpr c12
     exact absurd ((Option.some.inj H).trans HT_TRUE.out) (by simp)
   ·rw [if_neg c11] at H
    have c11b0 : (t139 == 0) = false := beq_eq_false_iff_ne.mpr c11
    have c11b1 : (t139 != 0) = true := bne_iff_ne.mpr c11
    exact absurd ((Option.some.inj H).trans HT_TRUE.out) (by simp)
  ·rw [if_neg c10] at H
   have c10b0 : (t137 == 0) = false := beq_eq_false_iff_ne.mpr c10
   have c10b1 : (t137 != 0) = true := bne_iff_ne.mpr c10
   exact absurd ((Option.some.inj H).trans HT_TRUE.out) (by simp)
 ·rw [if_neg c9] at H
  have c9b0 : (t135 == 0) = false := beq_eq_false_iff_ne.mpr c9
  have c9b1 : (t135 != 0) = true := bne_iff_ne.mpr c9
  exact absurd ((Option.some.inj H).trans HT_TRUE.out) (by simp)

end Go.Proofs.Ytldpacphackdjaa.Print
