/- That prepaid.Settle answers what its Lean function answers. -/
import Derived.Test.YtldpacphackdjaaDoorVaSq
import Derived.Test.YtldpacphackdjaaDoorVa7
import Derived.BigRegion
namespace Go.Proofs.YtldpacphackdjaaDoor.Print
open Go.RowKit Go.Proofs.YtldpacphackdjaaDoorW.PrintWords Go.Proofs.YtldpacphackdjaaDoorW.PrintLast Go.Proofs.YtldpacphackdjaaDoorW.PrintMore
attribute [local go_sem] max2_int min2_int max_two min_two max_three min_three max_four min_four
set_option linter.unusedVariables false
set_option linter.unusedSimpArgs false
/-- Is there a hold of the call? -/
def foundH (ref : Int) (l : List S54) : Bool := decide (placeH ref l < l.length) && decide ((rd_T54 l (placeH ref l : Int)).f0 = ref)
def dropH (i : Nat) (l : List S54) : List S54 := l.take i ++ l.drop (i + 1)
def prepaid_Settle.f (s : ByteArray) (b : Int) (l : List S54) (a1 a2 : Int) : Option (ByteArray × Int × List S54 × Int) :=
  if pchk s b l = 0 then (if a2 < 0 then some (⟨#[]⟩, 0, [], 1) else if foundH a1 l = true then some (s, mx 0 (wrap64 (b + (rd_T54 l (placeH a1 l : Int)).f1 - a2)), dropH (placeH a1 l) l, 0) else some (⟨#[]⟩, 0, [], 1)) else some (⟨#[]⟩, 0, [], pchk s b l)
theorem hFrom_units : ∀ (l : List S54) (p : Int), hFrom p l = true → ∀ x ∈ l, (1 ≤ x.f0 ∧ x.f0 ≤ 1099511627776) ∧ (0 ≤ x.f1 ∧ x.f1 ≤ 1099511627776) ∧ (0 ≤ x.f2 ∧ x.f2 ≤ 1099511627776)
  | [], _, _, x, hx => by cases hx
  | a :: t, p, h, x, hx => by
    simp only [hFrom, Bool.and_eq_true] at h
    rcases List.mem_cons.1 hx with rfl | hx
    · have h1 := h.1
      unfold holdB at h1
      simp only [Bool.and_eq_true, decide_eq_true_eq] at h1
      omega
    · exact hFrom_units t a.f0 h.2 x hx
theorem found_lt {ref : Int} {l : List S54} (h : foundH ref l = true) : placeH ref l < l.length := by
  unfold foundH at h
  simp only [Bool.and_eq_true, decide_eq_true_eq] at h
  exact h.1
set_option maxHeartbeats 8000000 in
set_option maxRecDepth 100000 in
theorem prepaid_Settle.calls (s : ByteArray) (b : Int) (A0 : Option Addr) (c0 : Nat) (l : List S54) (a1 a2 : Int) (r1 : ByteArray) (r2 : Int) (r3 : List S54) (r4 : Int) (w : World) (hr : Kd.C k54 w A0 l.length l) (hc : l.length ≤ c0) (h : prepaid_Settle.f s b l a1 a2 = some (r1, r2, r3, r4)) :
    Calls Tryd.prog 20 #[.agg #[.string s, .int .i64 b, .slice A0 l.length c0], .int .i64 a1, .int .i64 a2] w fun e w' => ∃ v0_ : Value, e = .returned (.tuple #[.agg #[.string r1, .int .i64 r2, v0_], .int .i64 r4]) ∧ Kd.R k54 54 w' w.heap.size (fun _ => True) v0_ r3 ∧ Below w.heap.size w w' := by
  have hu31 := Tryd.underlying31
  have hu82 := Tryd.underlying82
  have hu54 := Tryd.underlying54
  have hus := Tryd.underlying29
  have HR := Aside0.mk hr
  have HC := Aside0.mk hc
  have HB := Aside0.mk (Below.refl w.heap.size w)
  clear hr hc
  unfold prepaid_Settle.f at h
  by_cases hp : pchk s b l = 0
  · rw [if_pos hp] at h
    have AC := Aside0.mk ((pchk_zero s b l).1 hp)
    have HP := Aside0.mk hp
    have LN := Aside0.mk AC.out.len
    have HF := Aside0.mk AC.out.holds
    have PLT0 := Aside0.mk (found_lt (ref := a1) (l := l))
    have fd : foundH a1 l = (decide (placeH a1 l < l.length) && decide ((rd_T54 l (placeH a1 l : Int)).f0 = a1)) := rfl
    have FD := Aside0.mk fd
    clear fd
    obtain ⟨i, hi⟩ : ∃ i, placeH a1 l = i := ⟨_, rfl⟩
    rw [hi] at h PLT0 FD
    have HI := Aside0.mk hi
    clear hi
    obtain ⟨f, hf⟩ : ∃ f, foundH a1 l = f := ⟨_, rfl⟩
    rw [hf] at h FD PLT0
    have HFF := Aside0.mk FD.out.symm
    clear hp hf FD
    by_cases h1 : a2 < 0
    · rw [if_pos h1] at h
      simp only [Option.some.injEq, Prod.mk.injEq] at h
      obtain ⟨rfl, rfl, rfl, rfl⟩ := h
      clear PLT0
      go_enter Tryd.func20, Tryd.ntmps20
      go_wp2_with (first | ((with_reducible refine gate_dst (N := 3) rfl ?_); refine box_event ?hg (N := 3) ?hd (cs := #[.string s, .int .i64 b, .slice A0 l.length c0]) (t := 31) ?hr ?_; (case hd => rfl); (case hg => rfl); (case hr => first | (go_simp; done) | (go_simp; rfl)); intro gq hg w1 hbox hb; have n0_ := ls0 HB hb; have BKgq := Aside0.mk hbox; have GEgq := lz0 HB hg; clear HB; have HB := n0_; clear n0_ hb hbox hg) | ((with_reducible refine gate_dst (N := 6) rfl ?_); refine box_event ?hg (N := 6) ?hd (cs := #[.string ⟨#[]⟩, .int .i64 0, .slice none 0 0]) (t := 31) ?hr ?_; (case hd => rfl); (case hg => rfl); (case hr => first | (go_simp; done) | (go_simp; rfl)); intro gr hg w2 hbox hb; have NEgq_gr := Aside0.mk (ne_of_old (g := gq) (g' := gr) (o := .cells #[.string s, .int .i64 b, .slice A0 l.length c0] 31 (0, 0)) (kb BKgq) (by rw [hg])); have m0_ := kl BKgq hb; have n0_ := ls1 HB GEgq hb; have BKgr := Aside0.mk hbox; have GEgr := lz1 HB GEgq hg; clear BKgq; have BKgq := m0_; clear m0_; clear HB; have HB := n0_; clear n0_ hb hbox hg; have hczgq0 := bc BKgq 0; have hfzgq0 := blk_frozen BKgq.out 0; have hczgq1 := bc BKgq 1; have hfzgq1 := blk_frozen BKgq.out 1; have hczgq2 := bc BKgq 2; have hfzgq2 := blk_frozen BKgq.out 2) | ((with_reducible refine gate_callee (f := 37) rfl ?_); refine goesL_ (some 14) rfl rfl Tryd.func37 (by kernel_rfl) rfl #[.agg #[.string s, .int .i64 b, .slice A0 l.length c0]] rfl (by (try simp only [List.map_toArray, List.map_cons, List.map_nil]); first | done | rfl | (simp only [List.length_drop, List.length_take]; rfl)) ?_; (with_reducible refine (begin_ok A0 c0 l s b _ (Kd.C_below HR.out HB.out) HC.out HP.out).mono ?_); rintro e w3 ⟨ga, Ao, co, rfl, hga, hbk, hy, hb⟩; refine ⟨_, rfl, ?_⟩; have m0_ := kl BKgq hb; have m1_ := kl BKgr hb; have n0_ := ls2 HB GEgq GEgr hb; have NEgq_ga := Aside0.mk (show gq ≠ ga from by have e1_ := blk_lt BKgq.out; have e2_ := hga; omega); have NEgr_ga := Aside0.mk (show gr ≠ ga from by have e1_ := blk_lt BKgr.out; have e2_ := hga; omega); have GEga := Aside0.mk (Nat.le_trans (below_size HB.out) hga); have BKga := Aside0.mk hbk; have HO := Aside0.mk (Kd.R_lower hy (below_size HB.out)); clear BKgq; have BKgq := m0_; clear m0_; clear BKgr; have BKgr := m1_; clear m1_; clear HB; have HB := n0_; clear n0_ hb; clear hy hga hbk; clear hczgq0 hfzgq0 hczgq1 hfzgq1 hczgq2 hfzgq2) | ((with_reducible refine gate_callee (f := 39) rfl ?_); refine goesL_ (some 24) rfl rfl Tryd.func39 (by kernel_rfl) rfl #[.pointer (some ⟨ga, 0, none⟩), .int .i64 a1] rfl (by (try simp only [List.map_toArray, List.map_cons, List.map_nil]); first | done | rfl | (simp only [List.length_drop, List.length_take]; rfl)) ?_; (with_reducible refine (hold_calls ga _ _ Ao co l a1 _ _ BKga.out HO.out LN.out HF.out HI.out HFF.out).mono ?_); rintro e w4 ⟨rfl, hb⟩; refine ⟨_, rfl, ?_⟩; have m0_ := kl BKgq hb; have m1_ := kl BKgr hb; have m2_ := kl BKga hb; have rHO_ := Aside0.mk (Kd.R_below HO.out hb); have n0_ := ls3 HB GEgq GEgr GEga hb; clear BKgq; have BKgq := m0_; clear m0_; clear BKgr; have BKgr := m1_; clear m1_; clear BKga; have BKga := m2_; clear m2_; clear HB; have HB := n0_; clear HO; have HO := rHO_; clear rHO_; clear n0_ hb; have hczgr0 := bc BKgr 0; have hfzgr0 := blk_frozen BKgr.out 0; have hczgr1 := bc BKgr 1; have hfzgr1 := blk_frozen BKgr.out 1; have hczgr2 := bc BKgr 2; have hfzgr2 := blk_frozen BKgr.out 2))
      refine bodyPost_ret (results_ct rfl _ _ gr 31 #[.string ⟨#[]⟩, .int .i64 0, .slice none 0 0] (0, 0) _ rfl (by (with_reducible repeat (first | refine blk_drewN ?_ _ | refine blk_drew ?_ | refine blk_alloc ?_ _)); exact (blk_set ((blk_set ((blk_set (BKgr.out) 0 _)) 1 _)) 2 _)) Tryd.underlying31 rfl (by kernel_rfl)) rfl ?_
      exact ⟨_, rfl, Kd.R_nil _ _ _ _ _, lb3 HB GEgq GEgr GEga⟩
    · rw [if_neg h1] at h
      have h1' : 0 ≤ a2 := by omega
      clear h1
      cases f with
      | false =>
        rw [if_neg (by simp)] at h
        simp only [Option.some.injEq, Prod.mk.injEq] at h
        obtain ⟨rfl, rfl, rfl, rfl⟩ := h
        clear PLT0
        go_enter Tryd.func20, Tryd.ntmps20
        go_wp2_with (first | ((with_reducible refine gate_dst (N := 3) rfl ?_); refine box_event ?hg (N := 3) ?hd (cs := #[.string s, .int .i64 b, .slice A0 l.length c0]) (t := 31) ?hr ?_; (case hd => rfl); (case hg => rfl); (case hr => first | (go_simp; done) | (go_simp; rfl)); intro gq hg w1 hbox hb; have n0_ := ls0 HB hb; have BKgq := Aside0.mk hbox; have GEgq := lz0 HB hg; clear HB; have HB := n0_; clear n0_ hb hbox hg) | ((with_reducible refine gate_dst (N := 6) rfl ?_); refine box_event ?hg (N := 6) ?hd (cs := #[.string ⟨#[]⟩, .int .i64 0, .slice none 0 0]) (t := 31) ?hr ?_; (case hd => rfl); (case hg => rfl); (case hr => first | (go_simp; done) | (go_simp; rfl)); intro gr hg w2 hbox hb; have NEgq_gr := Aside0.mk (ne_of_old (g := gq) (g' := gr) (o := .cells #[.string s, .int .i64 b, .slice A0 l.length c0] 31 (0, 0)) (kb BKgq) (by rw [hg])); have m0_ := kl BKgq hb; have n0_ := ls1 HB GEgq hb; have BKgr := Aside0.mk hbox; have GEgr := lz1 HB GEgq hg; clear BKgq; have BKgq := m0_; clear m0_; clear HB; have HB := n0_; clear n0_ hb hbox hg; have hczgq0 := bc BKgq 0; have hfzgq0 := blk_frozen BKgq.out 0; have hczgq1 := bc BKgq 1; have hfzgq1 := blk_frozen BKgq.out 1; have hczgq2 := bc BKgq 2; have hfzgq2 := blk_frozen BKgq.out 2) | ((with_reducible refine gate_callee (f := 37) rfl ?_); refine goesL_ (some 14) rfl rfl Tryd.func37 (by kernel_rfl) rfl #[.agg #[.string s, .int .i64 b, .slice A0 l.length c0]] rfl (by (try simp only [List.map_toArray, List.map_cons, List.map_nil]); first | done | rfl | (simp only [List.length_drop, List.length_take]; rfl)) ?_; (with_reducible refine (begin_ok A0 c0 l s b _ (Kd.C_below HR.out HB.out) HC.out HP.out).mono ?_); rintro e w3 ⟨ga, Ao, co, rfl, hga, hbk, hy, hb⟩; refine ⟨_, rfl, ?_⟩; have m0_ := kl BKgq hb; have m1_ := kl BKgr hb; have n0_ := ls2 HB GEgq GEgr hb; have NEgq_ga := Aside0.mk (show gq ≠ ga from by have e1_ := blk_lt BKgq.out; have e2_ := hga; omega); have NEgr_ga := Aside0.mk (show gr ≠ ga from by have e1_ := blk_lt BKgr.out; have e2_ := hga; omega); have GEga := Aside0.mk (Nat.le_trans (below_size HB.out) hga); have BKga := Aside0.mk hbk; have HO := Aside0.mk (Kd.R_lower hy (below_size HB.out)); clear BKgq; have BKgq := m0_; clear m0_; clear BKgr; have BKgr := m1_; clear m1_; clear HB; have HB := n0_; clear n0_ hb; clear hy hga hbk; clear hczgq0 hfzgq0 hczgq1 hfzgq1 hczgq2 hfzgq2) | ((with_reducible refine gate_callee (f := 39) rfl ?_); refine goesL_ (some 24) rfl rfl Tryd.func39 (by kernel_rfl) rfl #[.pointer (some ⟨ga, 0, none⟩), .int .i64 a1] rfl (by (try simp only [List.map_toArray, List.map_cons, List.map_nil]); first | done | rfl | (simp only [List.length_drop, List.length_take]; rfl)) ?_; (with_reducible refine (hold_calls ga _ _ Ao co l a1 _ _ BKga.out HO.out LN.out HF.out HI.out HFF.out).mono ?_); rintro e w4 ⟨rfl, hb⟩; refine ⟨_, rfl, ?_⟩; have m0_ := kl BKgq hb; have m1_ := kl BKgr hb; have m2_ := kl BKga hb; have rHO_ := Aside0.mk (Kd.R_below HO.out hb); have n0_ := ls3 HB GEgq GEgr GEga hb; clear BKgq; have BKgq := m0_; clear m0_; clear BKgr; have BKgr := m1_; clear m1_; clear BKga; have BKga := m2_; clear m2_; clear HB; have HB := n0_; clear HO; have HO := rHO_; clear rHO_; clear n0_ hb; have hczgr0 := bc BKgr 0; have hfzgr0 := blk_frozen BKgr.out 0; have hczgr1 := bc BKgr 1; have hfzgr1 := blk_frozen BKgr.out 1; have hczgr2 := bc BKgr 2; have hfzgr2 := blk_frozen BKgr.out 2))
        refine bodyPost_ret (results_ct rfl _ _ gr 31 #[.string ⟨#[]⟩, .int .i64 0, .slice none 0 0] (0, 0) _ rfl (by (with_reducible repeat (first | refine blk_drewN ?_ _ | refine blk_drew ?_ | refine blk_alloc ?_ _)); exact (blk_set ((blk_set ((blk_set (BKgr.out) 0 _)) 1 _)) 2 _)) Tryd.underlying31 rfl (by kernel_rfl)) rfl ?_
        exact ⟨_, rfl, Kd.R_nil _ _ _ _ _, lb3 HB GEgq GEgr GEga⟩
      | true =>
        rw [if_pos rfl] at h
        have PLT := Aside0.mk (PLT0.out rfl)
        have hilt := PLT.out
        have hx := (hFrom_units l 0 HF.out _ (show rd_T54 l (i : Int) ∈ l by rw [rdH_is l i hilt]; exact List.getElem_mem _)).2.1
        have hb0 := AC.out.bal
        obtain ⟨x, hxx⟩ : ∃ x, rd_T54 l (i : Int) = x := ⟨_, rfl⟩
        rw [hxx] at h hx
        have X := Aside0.mk hxx
        obtain ⟨y, hy⟩ : ∃ y, dropH i l = y := ⟨_, rfl⟩
        rw [hy] at h
        have PLE := Aside0.mk (show l.take i ++ l.drop (i + 1) = y from hy)
        simp only [Option.some.injEq, Prod.mk.injEq] at h
        obtain ⟨rfl, rfl, rfl, rfl⟩ := h
        obtain ⟨x0, x1, x2⟩ := x
        simp only at hx X ⊢
        obtain ⟨hx1, hx2⟩ := hx
        obtain ⟨hb1, hb2⟩ := hb0
        have hq1 : (0 : Int) ≤ (i : Int) := by omega
        have hq2 : (i : Int) < (l.length : Int) := by omega
        have hq3 : (i : Int) < 1024 := by have := LN.out; omega
        clear hy hxx PLT0 hilt
        obtain ⟨nb, hnb⟩ : ∃ nb, mx 0 (wrap64 (b + x1 - a2)) = nb := ⟨_, rfl⟩
        rw [hnb]
        have NBE := Aside0.mk hnb
        clear hnb
        go_enter Tryd.func20, Tryd.ntmps20
        go_wp2_with (first | ((with_reducible refine gate_dst (N := 3) rfl ?_); refine box_event ?hg (N := 3) ?hd (cs := #[.string s, .int .i64 b, .slice A0 l.length c0]) (t := 31) ?hr ?_; (case hd => rfl); (case hg => rfl); (case hr => first | (go_simp; done) | (go_simp; rfl)); intro gq hg w1 hbox hb; have n0_ := ls0 HB hb; have BKgq := Aside0.mk hbox; have GEgq := lz0 HB hg; clear HB; have HB := n0_; clear n0_ hb hbox hg) | ((with_reducible refine gate_dst (N := 6) rfl ?_); refine box_event ?hg (N := 6) ?hd (cs := #[.string ⟨#[]⟩, .int .i64 0, .slice none 0 0]) (t := 31) ?hr ?_; (case hd => rfl); (case hg => rfl); (case hr => first | (go_simp; done) | (go_simp; rfl)); intro gr hg w2 hbox hb; have NEgq_gr := Aside0.mk (ne_of_old (g := gq) (g' := gr) (o := .cells #[.string s, .int .i64 b, .slice A0 l.length c0] 31 (0, 0)) (kb BKgq) (by rw [hg])); have m0_ := kl BKgq hb; have n0_ := ls1 HB GEgq hb; have BKgr := Aside0.mk hbox; have GEgr := lz1 HB GEgq hg; clear BKgq; have BKgq := m0_; clear m0_; clear HB; have HB := n0_; clear n0_ hb hbox hg; have hczgq0 := bc BKgq 0; have hfzgq0 := blk_frozen BKgq.out 0; have hczgq1 := bc BKgq 1; have hfzgq1 := blk_frozen BKgq.out 1; have hczgq2 := bc BKgq 2; have hfzgq2 := blk_frozen BKgq.out 2) | ((with_reducible refine gate_callee (f := 37) rfl ?_); refine goesL_ (some 14) rfl rfl Tryd.func37 (by kernel_rfl) rfl #[.agg #[.string s, .int .i64 b, .slice A0 l.length c0]] rfl (by (try simp only [List.map_toArray, List.map_cons, List.map_nil]); first | done | rfl | (simp only [List.length_drop, List.length_take]; rfl)) ?_; (with_reducible refine (begin_ok A0 c0 l s b _ (Kd.C_below HR.out HB.out) HC.out HP.out).mono ?_); rintro e w3 ⟨ga, Ao, co, rfl, hga, hbk, hy, hb⟩; refine ⟨_, rfl, ?_⟩; have m0_ := kl BKgq hb; have m1_ := kl BKgr hb; have n0_ := ls2 HB GEgq GEgr hb; have NEgq_ga := Aside0.mk (show gq ≠ ga from by have e1_ := blk_lt BKgq.out; have e2_ := hga; omega); have NEgr_ga := Aside0.mk (show gr ≠ ga from by have e1_ := blk_lt BKgr.out; have e2_ := hga; omega); have GEga := Aside0.mk (Nat.le_trans (below_size HB.out) hga); have BKga := Aside0.mk hbk; have HO := Aside0.mk (Kd.R_lower hy (below_size HB.out)); clear BKgq; have BKgq := m0_; clear m0_; clear BKgr; have BKgr := m1_; clear m1_; clear HB; have HB := n0_; clear n0_ hb; clear hy hga hbk; clear hczgq0 hfzgq0 hczgq1 hfzgq1 hczgq2 hfzgq2) | ((with_reducible refine gate_callee (f := 39) rfl ?_); refine goesL_ (some 24) rfl rfl Tryd.func39 (by kernel_rfl) rfl #[.pointer (some ⟨ga, 0, none⟩), .int .i64 a1] rfl (by (try simp only [List.map_toArray, List.map_cons, List.map_nil]); first | done | rfl | (simp only [List.length_drop, List.length_take]; rfl)) ?_; (with_reducible refine (hold_calls ga _ _ Ao co l a1 _ _ BKga.out HO.out LN.out HF.out HI.out HFF.out).mono ?_); rintro e w4 ⟨rfl, hb⟩; refine ⟨_, rfl, ?_⟩; have m0_ := kl BKgq hb; have m1_ := kl BKgr hb; have m2_ := kl BKga hb; have rHO_ := Aside0.mk (Kd.R_below HO.out hb); have n0_ := ls3 HB GEgq GEgr GEga hb; clear BKgq; have BKgq := m0_; clear m0_; clear BKgr; have BKgr := m1_; clear m1_; clear BKga; have BKga := m2_; clear m2_; clear HB; have HB := n0_; clear HO; have HO := rHO_; clear rHO_; clear n0_ hb; have hczga0 := bc BKga 0; have hfzga0 := blk_frozen BKga.out 0; have hczga1 := bc BKga 1; have hfzga1 := blk_frozen BKga.out 1; have hczga2 := bc BKga 2; have hfzga2 := blk_frozen BKga.out 2))
        obtain ⟨ad, e1, d1, d2, d3⟩ := at_T54 (Kd.R_reads' HO.out).2.2 (i : Int) (by omega) (by omega)
        cases e1
        rw [X.out, Int.toNat_natCast] at d1 d2 d3
        simp only at d1 d2 d3
        go_region
        generalize hz : (if 0 < wrap64 (b + x1 - a2) then wrap64 (b + x1 - a2) else (0 : Int)) = nb2
        obtain rfl : nb2 = nb := hz.symm.trans NBE.out
        clear hz
        generalize hw5 : (w4.setCell ⟨ga, 1, none⟩ (.int .i64 nb2)).drew = w5
        have mga := Aside0.mk (show w5.heap[ga]? = some (.cells #[.string s, .int .i64 nb2, .slice (some ad) l.length co] 82 (0, 0)) from by rw [← hw5]; exact blk_drew (blk_set BKga.out 1 _))
        have mgq := Aside0.mk (show w5.heap[gq]? = some (.cells #[.string s, .int .i64 b, .slice A0 l.length c0] 31 (0, 0)) from by rw [← hw5]; exact blk_drew (blk_far (p := ⟨ga, 1, none⟩) BKgq.out NEgq_ga.out _))
        have mgr := Aside0.mk (show w5.heap[gr]? = some (.cells #[.string ⟨#[]⟩, .int .i64 0, .slice none 0 0] 31 (0, 0)) from by rw [← hw5]; exact blk_drew (blk_far (p := ⟨ga, 1, none⟩) BKgr.out NEgr_ga.out _))
        have n0 := Aside0.mk (show Below w.heap.size w w5 from by rw [← hw5]; exact below_drew (below_set (j := 1) HB.out GEga.out))
        have ro := Aside0.mk (show Kd.R k54 54 w5 w.heap.size (fun _ => True) (.slice (some ad) l.length co) l from by rw [← hw5]; exact Kd.R_drew (row_any (Kd.R_far (p := ⟨ga, 1, none⟩) (row_own HO.out) (fun k_ hk_ e_ => (Ne.symm (Kd.R_ne HO.out BKga.out (by decide))) (by rw [hk_]; exact congrArg some e_)) _)))
        clear hczga0 hfzga0 hczga1 hfzga1 hczga2 hfzga2 d1 d2 d3 BKga BKgq BKgr HB HO hw5
        have BKga := mga; have BKgq := mgq; have BKgr := mgr; have HB := n0; have HO := ro
        clear mga mgq mgr n0 ro
        have hczga0 := bc BKga 0; have hfzga0 := blk_frozen BKga.out 0; have hczga1 := bc BKga 1; have hfzga1 := blk_frozen BKga.out 1; have hczga2 := bc BKga 2; have hfzga2 := blk_frozen BKga.out 2
        go_wp2_with (first | ((with_reducible refine gate_callee (f := 53) rfl ?_); refine goesL_ (some 65) rfl rfl Tryd.func53 (by kernel_rfl) rfl #[.slice (some ad) l.length co, .int .i64 (i : Int), .int .i64 ((i : Int) + 1)] rfl (by (try simp only [List.map_toArray, List.map_cons, List.map_nil]); first | done | rfl) ?_; (with_reducible refine (pd_delete_calls (.slice (some ad) l.length co) l i w5 w.heap.size HO.out PLT.out).mono ?_); rintro e w6 ⟨v2, rfl, hy, hgr, hat⟩; refine ⟨_, rfl, ?_⟩; have mgq_ := Aside0.mk (blk_grown BKgq.out hgr (Kd.R_ne HO.out BKgq.out (by decide))); have mgr_ := Aside0.mk (blk_grown BKgr.out hgr (Kd.R_ne HO.out BKgr.out (by decide))); have mga_ := Aside0.mk (blk_grown BKga.out hgr (Kd.R_ne HO.out BKga.out (by decide))); have HB2 := Aside0.mk (pw_below_grown HB.out _ (below_size HB.out) hgr (fun k hk => Kd.R_base HO.out k hk)); rw [PLE.out] at hy; have HO2 := Aside0.mk hy; clear BKgq BKgr BKga HB HO hy hgr hat; have BKgq := mgq_; have BKgr := mgr_; have BKga := mga_; have HB := HB2; have HO := HO2; clear mgq_ mgr_ mga_ HB2 HO2; obtain ⟨Ar, cr, er⟩ := Kd.R_slice HO.out; subst er; clear hczga0 hfzga0 hczga1 hfzga1 hczga2 hfzga2; have hczga0 := bc BKga 0; have hfzga0 := blk_frozen BKga.out 0; have hczga1 := bc BKga 1; have hfzga1 := blk_frozen BKga.out 1; have hczga2 := bc BKga 2; have hfzga2 := blk_frozen BKga.out 2) | ((with_reducible refine gate_store (t := 29) (p := 68) rfl ?_); refine store_event (t := 29) (p := 68) (v := .tmp 65) (w1 := (w6).setCell ⟨ga, 2, none⟩ (.slice Ar y.length cr)) ?hg ?ho ?hn ?hr ?_; (case ho => rfl); (case hg => rfl); (case hn => rfl); (case hr => first | (go_simp; done) | (go_simp; rfl)); intro w7 hw_; have m0_ := Aside0.mk (show w7.heap[gq]? = some (.cells #[.string s, .int .i64 b, .slice A0 l.length c0] 31 (0, 0)) from by rw [hw_]; exact (blk_far (p := ⟨ga, 2, none⟩) (BKgq.out) NEgq_ga.out _)); have m1_ := Aside0.mk (show w7.heap[gr]? = some (.cells #[.string ⟨#[]⟩, .int .i64 0, .slice none 0 0] 31 (0, 0)) from by rw [hw_]; exact (blk_far (p := ⟨ga, 2, none⟩) (BKgr.out) NEgr_ga.out _)); have m2_ := Aside0.mk (show w7.heap[ga]? = some (.cells #[.string s, .int .i64 nb2, .slice Ar y.length cr] 82 (0, 0)) from by rw [hw_]; exact (blk_set (BKga.out) 2 _)); have n0_ := Aside0.mk (show Below w.heap.size w w7 from by rw [hw_]; exact (below_set (j := 2) (HB.out) GEga.out)); have rHO_ := Aside0.mk (show Kd.R _ _ w7 _ (fun _ => True) _ _ from by rw [hw_]; exact row_any (Kd.R_far (p := ⟨ga, 2, none⟩) (row_own HO.out) (fun k_ hk_ e_ => (Ne.symm (Kd.R_ne HO.out BKga.out (by decide))) (by rw [hk_]; exact congrArg some e_)) _)); clear BKgq; have BKgq := m0_; clear m0_; clear BKgr; have BKgr := m1_; clear m1_; clear BKga; have BKga := m2_; clear m2_; clear HB; have HB := n0_; clear HO; have HO := rHO_; clear rHO_; clear n0_ hw_; clear hczga0 hfzga0 hczga1 hfzga1 hczga2 hfzga2; have hczga0 := bc BKga 0; have hfzga0 := blk_frozen BKga.out 0; have hczga1 := bc BKga 1; have hfzga1 := blk_frozen BKga.out 1; have hczga2 := bc BKga 2; have hfzga2 := blk_frozen BKga.out 2; have hczgr0 := bc BKgr 0; have hfzgr0 := blk_frozen BKgr.out 0; have hczgr1 := bc BKgr 1; have hfzgr1 := blk_frozen BKgr.out 1; have hczgr2 := bc BKgr 2; have hfzgr2 := blk_frozen BKgr.out 2))
        refine bodyPost_ret (results_ct rfl _ _ gr 31 #[.string s, .int .i64 nb2, .slice Ar y.length cr] (0, 0) _ rfl (by (with_reducible repeat (first | refine blk_drewN ?_ _ | refine blk_drew ?_ | refine blk_alloc ?_ _)); exact (blk_set ((blk_set ((blk_set (BKgr.out) 0 _)) 1 _)) 2 _)) Tryd.underlying31 rfl (by kernel_rfl)) rfl ?_
        exact ⟨_, rfl, by (with_reducible repeat (first | apply Kd.R_alloc | apply Kd.R_drewN | apply Kd.R_drew)); exact Kd.R_mono (Kd.R_far (p := ⟨gr, 2, none⟩) (Kd.R_far (p := ⟨gr, 1, none⟩) (Kd.R_far (p := ⟨gr, 0, none⟩) (Kd.R_types HO.out BKgr.out (by decide)) (fun _ hk => hk.2) _) (fun _ hk => hk.2) _) (fun _ hk => hk.2) _) (fun _ hk => trivial), lb3 HB GEgq GEgr GEga⟩
  · rw [if_neg hp] at h
    obtain ⟨c, hcc⟩ : ∃ c, pchk s b l = c := ⟨_, rfl⟩
    rw [hcc] at h hp
    have c4b0 : (c == 0) = false := beq_eq_false_iff_ne.mpr hp
    have c4b1 : (c != 0) = true := bne_iff_ne.mpr hp
    have HP := Aside0.mk hcc
    have HNE := Aside0.mk hp
    clear hp hcc
    simp only [Option.some.injEq, Prod.mk.injEq] at h
    obtain ⟨rfl, rfl, rfl, rfl⟩ := h
    go_enter Tryd.func20, Tryd.ntmps20
    go_wp2_with (first | ((with_reducible refine gate_dst (N := 3) rfl ?_); refine box_event ?hg (N := 3) ?hd (cs := #[.string s, .int .i64 b, .slice A0 l.length c0]) (t := 31) ?hr ?_; (case hd => rfl); (case hg => rfl); (case hr => first | (go_simp; done) | (go_simp; rfl)); intro gq hg w1 hbox hb; have n0_ := ls0 HB hb; have BKgq := Aside0.mk hbox; have GEgq := lz0 HB hg; clear HB; have HB := n0_; clear n0_ hb hbox hg) | ((with_reducible refine gate_dst (N := 6) rfl ?_); refine box_event ?hg (N := 6) ?hd (cs := #[.string ⟨#[]⟩, .int .i64 0, .slice none 0 0]) (t := 31) ?hr ?_; (case hd => rfl); (case hg => rfl); (case hr => first | (go_simp; done) | (go_simp; rfl)); intro gr hg w2 hbox hb; have NEgq_gr := Aside0.mk (ne_of_old (g := gq) (g' := gr) (o := .cells #[.string s, .int .i64 b, .slice A0 l.length c0] 31 (0, 0)) (kb BKgq) (by rw [hg])); have m0_ := kl BKgq hb; have n0_ := ls1 HB GEgq hb; have BKgr := Aside0.mk hbox; have GEgr := lz1 HB GEgq hg; clear BKgq; have BKgq := m0_; clear m0_; clear HB; have HB := n0_; clear n0_ hb hbox hg; have hczgq0 := bc BKgq 0; have hfzgq0 := blk_frozen BKgq.out 0; have hczgq1 := bc BKgq 1; have hfzgq1 := blk_frozen BKgq.out 1; have hczgq2 := bc BKgq 2; have hfzgq2 := blk_frozen BKgq.out 2) | ((with_reducible refine gate_callee (f := 37) rfl ?_); refine goesL_ (some 14) rfl rfl Tryd.func37 (by kernel_rfl) rfl #[.agg #[.string s, .int .i64 b, .slice A0 l.length c0]] rfl (by (try simp only [List.map_toArray, List.map_cons, List.map_nil]); first | done | rfl | (simp only [List.length_drop, List.length_take]; rfl)) ?_; (with_reducible refine (begin_no A0 c0 l s b c _ (Kd.C_below HR.out HB.out) HC.out HP.out HNE.out).mono ?_); rintro e w3 ⟨rfl, hb⟩; refine ⟨_, rfl, ?_⟩; have m0_ := kl BKgq hb; have m1_ := kl BKgr hb; have n0_ := ls2 HB GEgq GEgr hb; clear BKgq; have BKgq := m0_; clear m0_; clear BKgr; have BKgr := m1_; clear m1_; clear HB; have HB := n0_; clear n0_ hb; clear hczgq0 hfzgq0 hczgq1 hfzgq1 hczgq2 hfzgq2; have hczgr0 := bc BKgr 0; have hfzgr0 := blk_frozen BKgr.out 0; have hczgr1 := bc BKgr 1; have hfzgr1 := blk_frozen BKgr.out 1; have hczgr2 := bc BKgr 2; have hfzgr2 := blk_frozen BKgr.out 2))
    refine bodyPost_ret (results_ct rfl _ _ gr 31 #[.string ⟨#[]⟩, .int .i64 0, .slice none 0 0] (0, 0) _ rfl (by (with_reducible repeat (first | refine blk_drewN ?_ _ | refine blk_drew ?_ | refine blk_alloc ?_ _)); exact (blk_set ((blk_set ((blk_set (BKgr.out) 0 _)) 1 _)) 2 _)) Tryd.underlying31 rfl (by kernel_rfl)) rfl ?_
    exact ⟨_, rfl, Kd.R_nil _ _ _ _ _, lb2 HB GEgq GEgr⟩
end Go.Proofs.YtldpacphackdjaaDoor.Print
