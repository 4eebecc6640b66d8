/- A part of that prepaid.Reserve answers what its Lean function answers. -/
import Derived.Test.YtldpacphackdjaaDoorVaSq
import Derived.Test.YtldpacphackdjaaDoorVaHPResA
import Derived.Outline
namespace Go.Proofs.YtldpacphackdjaaDoor.Print
open Go.RowKit Go.Proofs.YtldpacphackdjaaDoorW.PrintWords Go.Proofs.YtldpacphackdjaaDoorW.PrintLast Go.Proofs.YtldpacphackdjaaDoorW.PrintMore
attribute [local go_sem] max2_int min2_int max_two min_two max_three min_three max_four min_four
set_option linter.unusedVariables false
set_option linter.unusedSimpArgs false
set_option maxHeartbeats 8000000 in
set_option maxRecDepth 100000 in
theorem reserve_new_zero (s : ByteArray) (b : Int) (A0 : Option Addr) (c0 : Nat) (l : List S54) (At : Option Addr) (ct : Nat) (tl : List S70) (a2 a3 : Int) (w : World) (hr : Kd.C k54 w A0 l.length l) (hc : l.length ≤ c0) (ht : Kd.C k70 w At tl.length tl) (htc : tl.length ≤ ct) (hp : pchk s b l = 0) (hg : good tl = true) (h1 : 1 ≤ a2 ∧ a2 ≤ 1099511627776) (h2 : 0 ≤ a3 ∧ a3 ≤ 1099511627776) (hf : foundH a2 l = false) (hl : l.length ≠ 1024) (hn0 : (lasts tl b a3 (rd_T54 (l.take (placeH a2 l) ++ (⟨a2, 0, a3⟩ : S54) :: l.drop (placeH a2 l)) (placeH a2 l : Int)).f2) = 0) : Calls Tryd.prog 14 #[.agg #[.string s, .int .i64 b, .slice A0 l.length c0], .agg #[.slice At tl.length ct], .int .i64 a2, .int .i64 a3] w fun e w' => ∃ v0_ : Value, e = .returned (.tuple #[.agg #[.string (⟨#[]⟩ : ByteArray), .int .i64 0, v0_], .int .i64 0, .int .i64 280]) ∧ Kd.R k54 54 w' w.heap.size (fun _ => True) v0_ [] ∧ Below w.heap.size w w' := by
  have hu31 := Tryd.underlying31
  have hu82 := Tryd.underlying82
  have hu54 := Tryd.underlying54
  have hu24 := Tryd.underlying24
  have hus := Tryd.underlying29
  have HR := Aside0.mk hr
  have HC := Aside0.mk hc
  have HT := Aside0.mk ht
  have HTC := Aside0.mk htc
  have HB := Aside0.mk (Below.refl w.heap.size w)
  clear hr hc ht htc
  have AC := Aside0.mk ((pchk_zero s b l).1 hp)
  have HP := Aside0.mk hp
  have LN := Aside0.mk AC.out.len
  have HF := Aside0.mk AC.out.holds
  clear hp
  have TCK := Aside0.mk (show tariff_Check.f 100 tl = some 0 from by rw [check_is tl 100 (by omega), if_pos hg])
  have HG := Aside0.mk hg
  clear hg
  have WI1 := Aside0.mk (decide_eq_true h1)
  have WI2 := Aside0.mk (decide_eq_true h2)
  obtain ⟨h1a, h1b⟩ := h1
  obtain ⟨h2a, h2b⟩ := h2
  have fd : foundH a2 l = (decide (placeH a2 l < l.length) && decide ((rd_T54 l (placeH a2 l : Int)).f0 = a2)) := rfl
  rw [hf] at fd
  obtain ⟨i, hi⟩ : ∃ i, placeH a2 l = i := ⟨_, rfl⟩
  rw [hi] at fd
  have HFF := Aside0.mk fd.symm
  rw [hi] at hn0
  have HI := Aside0.mk hi
  clear fd
  have hile : i ≤ l.length := by rw [← hi]; exact placeH_le _ _
  obtain ⟨l1, hl1⟩ : ∃ l1, l.take i ++ (⟨a2, 0, a3⟩ : S54) :: l.drop i = l1 := ⟨_, rfl⟩
  rw [hl1] at hn0
  have hlen1 : l1.length = l.length + 1 := by rw [← hl1]; simp; omega
  have hilt : i < l1.length := by omega
  have hrd : rd_T54 l1 (i : Int) = ⟨a2, 0, a3⟩ := by
    have e : l1[i]? = some (⟨a2, 0, a3⟩ : S54) := by
      rw [← hl1, List.getElem?_append_right (by simp; omega), List.length_take, Nat.min_eq_left hile, Nat.sub_self]
      rfl
    simp only [rd_T54, List.getD_eq_getElem?_getD, Int.toNat_natCast, e]
    rfl
  have hxb : (0 ≤ (rd_T54 l1 (i : Int)).f1 ∧ (rd_T54 l1 (i : Int)).f1 ≤ 1099511627776) ∧ (0 ≤ (rd_T54 l1 (i : Int)).f2 ∧ (rd_T54 l1 (i : Int)).f2 ≤ 1099511627776) := by rw [hrd]; exact ⟨⟨by simp, by simp⟩, h2a, h2b⟩
  clear hrd
  have PLE := Aside0.mk hl1
  have PLL := Aside0.mk hile
  have LB := Aside0.mk (by have := LN.out; omega : (l.length + 1) * 24 ≤ 140737488355328)
  have hl0 : ((l.length : Int) == 1024) = false := by rw [beq_eq_false_iff_ne]; omega
  obtain ⟨x, hx⟩ : ∃ x, rd_T54 l1 (i : Int) = x := ⟨_, rfl⟩
  rw [hx] at hxb
  obtain ⟨x0, x1, x2⟩ := x
  have X := Aside0.mk hx
  clear hx
  simp only at hxb
  obtain ⟨⟨hxb1, hxb2⟩, hxb3, hxb4⟩ := hxb
  have hb0 := AC.out.bal
  obtain ⟨hb1, hb2⟩ := hb0
  have L1P := Aside0.mk (by omega : 0 < l1.length)
  have ILN := Aside0.mk hilt
  have ILT := Aside0.mk (by omega : (i : Int) < (l1.length : Int))
  have II := Aside0.mk (by omega : (0 : Int) ≤ (i : Int))
  have hq1 : (0 : Int) ≤ (i : Int) := by omega
  have hq2 : (i : Int) < (l1.length : Int) := by omega
  have hq3 : (l1.length : Int) ≤ 1025 := by have := LN.out; omega
  have BDS := Aside0.mk (lasts_bd HG.out b a3 x2 hb1 h2a h2b hxb3 hxb4)
  rw [X.out] at hn0
  simp only at hn0
  obtain ⟨n, hn⟩ : ∃ n, lasts tl b a3 x2 = n := ⟨_, rfl⟩
  rw [hn] at hn0 BDS
  obtain ⟨p, hpp⟩ : ∃ p, totalP tl (x2 + n) - totalP tl x2 = p := ⟨_, rfl⟩
  rw [hpp] at BDS
  obtain ⟨lim, hlim⟩ : ∃ lim, limOf a3 x2 = lim := ⟨_, rfl⟩
  rw [hlim] at BDS
  have LIM := Aside0.mk (show mn (30 + mx 0 (a3 - x2)) (1099511627776 - x2) = lim from hlim)
  have AFE := Aside0.mk BDS.out.2.2.2.2
  have PRE := Aside0.mk (show tariff_Price.f 100 tl x2 (x2 + n) = some (p, 0) from by rw [price_ok HG.out x2 (x2 + n) hxb3 (by have := BDS.out.1; omega) BDS.out.2.1 100 (by omega), hpp])
  obtain ⟨hn1, hn2, hn3, hn4, _⟩ := BDS.out
  have hlb := limOf_bd a3 x2 h2a h2b hxb3 hxb4
  rw [hlim] at hlb
  obtain ⟨hlb1, hlb2⟩ := hlb
  clear hf hi hilt BDS hlim hn hpp hl1 hile
  have hb01 : (n == 0) = true := by rw [hn0]; rfl
  have LZ := Aside0.mk hn0
  clear hn0
  go_enter Tryd.func14, Tryd.ntmps14
  go_wp2_with (first | ((with_reducible refine gate_dst (N := 4) rfl ?_); refine box_event ?hg (N := 4) ?hd (cs := #[.string s, .int .i64 b, .slice A0 l.length c0]) (t := 31) ?hr ?_; (case hd => rfl); (case hg => rfl); (case hr => first | (go_simp; done) | (go_simp; rfl)); intro gq hg w1 hbox hb; have n0_ := ls0 HB hb; have BKgq := Aside0.mk hbox; have GEgq := lz0 HB hg; clear HB; have HB := n0_; clear n0_ hb hbox hg) | ((with_reducible refine gate_dst (N := 5) rfl ?_); refine box_event ?hg (N := 5) ?hd (cs := #[.slice At tl.length ct]) (t := 24) ?hr ?_; (case hd => rfl); (case hg => rfl); (case hr => first | (go_simp; done) | (go_simp; rfl)); intro gt hg wt hbox hb; have NEgq_gt := Aside0.mk (ne_of_old (g := gq) (g' := gt) (o := .cells #[.string s, .int .i64 b, .slice A0 l.length c0] 31 (0, 0)) (kb BKgq) (by rw [hg])); have m0_ := kl BKgq hb; have n0_ := ls1 HB GEgq hb; have BKgt := Aside0.mk hbox; have GEgt := lz1 HB GEgq hg; clear BKgq; have BKgq := m0_; clear m0_; clear HB; have HB := n0_; clear n0_ hb hbox hg) | ((with_reducible refine gate_dst (N := 8) rfl ?_); refine box_event ?hg (N := 8) ?hd (cs := #[.string ⟨#[]⟩, .int .i64 0, .slice none 0 0]) (t := 31) ?hr ?_; (case hd => rfl); (case hg => rfl); (case hr => first | (go_simp; done) | (go_simp; rfl)); intro gr hg w2 hbox hb; have NEgq_gr := Aside0.mk (ne_of_old (g := gq) (g' := gr) (o := .cells #[.string s, .int .i64 b, .slice A0 l.length c0] 31 (0, 0)) (kb BKgq) (by rw [hg])); have NEgt_gr := Aside0.mk (ne_of_old (g := gt) (g' := gr) (o := .cells #[.slice At tl.length ct] 24 (0, 0)) (kb BKgt) (by rw [hg])); have m0_ := kl BKgq hb; have m1_ := kl BKgt hb; have n0_ := ls2 HB GEgq GEgt hb; have BKgr := Aside0.mk hbox; have GEgr := lz2 HB GEgq GEgt hg; clear BKgq; have BKgq := m0_; clear m0_; clear BKgt; have BKgt := m1_; clear m1_; clear HB; have HB := n0_; clear n0_ hb hbox hg; have hczgq0 := bc BKgq 0; have hfzgq0 := blk_frozen BKgq.out 0; have hczgq1 := bc BKgq 1; have hfzgq1 := blk_frozen BKgq.out 1; have hczgq2 := bc BKgq 2; have hfzgq2 := blk_frozen BKgq.out 2) | ((with_reducible refine gate_callee (f := 37) rfl ?_); refine goesL_ (some 22) rfl rfl Tryd.func37 (by kernel_rfl) rfl #[.agg #[.string s, .int .i64 b, .slice A0 l.length c0]] rfl (by (try simp only [List.map_toArray, List.map_cons, List.map_nil]); first | done | rfl | (simp only [List.length_drop, List.length_take]; rfl)) ?_; (with_reducible refine (begin_ok A0 c0 l s b _ (Kd.C_below HR.out HB.out) HC.out HP.out).mono ?_); rintro e w3 ⟨ga, Ao, co, rfl, hga, hbk, hy, hb⟩; refine ⟨_, rfl, ?_⟩; have m0_ := kl BKgq hb; have m1_ := kl BKgt hb; have m2_ := kl BKgr hb; have n0_ := ls3 HB GEgq GEgt GEgr hb; have NEgq_ga := Aside0.mk (show gq ≠ ga from by have e1_ := blk_lt BKgq.out; have e2_ := hga; omega); have NEgt_ga := Aside0.mk (show gt ≠ ga from by have e1_ := blk_lt BKgt.out; have e2_ := hga; omega); have NEgr_ga := Aside0.mk (show gr ≠ ga from by have e1_ := blk_lt BKgr.out; have e2_ := hga; omega); have GEga := Aside0.mk (Nat.le_trans (below_size HB.out) hga); have BKga := Aside0.mk hbk; have HO := Aside0.mk (Kd.R_lower hy (below_size HB.out)); clear BKgq; have BKgq := m0_; clear m0_; clear BKgt; have BKgt := m1_; clear m1_; clear BKgr; have BKgr := m2_; clear m2_; clear HB; have HB := n0_; clear n0_ hb; clear hy hga hbk; clear hczgq0 hfzgq0 hczgq1 hfzgq1 hczgq2 hfzgq2; have hczgt0 := bc BKgt 0; have hfzgt0 := blk_frozen BKgt.out 0) | ((with_reducible refine gate_callee (f := 12) rfl ?_); refine goesL_ (some 28) rfl rfl Tryd.func12 (by kernel_rfl) rfl #[.agg #[.slice At tl.length ct]] rfl (by (try simp only [List.map_toArray, List.map_cons, List.map_nil]); first | done | rfl | (simp only [List.length_drop, List.length_take]; rfl)) ?_; (with_reducible refine (tariff_Check.calls 100 At ct tl _ _ (Kd.C_below HT.out HB.out) HTC.out TCK.out).mono ?_); rintro e w4 ⟨rfl, hb⟩; refine ⟨_, rfl, ?_⟩; have m0_ := kl BKgq hb; have m1_ := kl BKgt hb; have m2_ := kl BKgr hb; have m3_ := kl BKga hb; have rHO_ := Aside0.mk (Kd.R_below HO.out hb); have n0_ := ls4 HB GEgq GEgt GEgr GEga hb; clear BKgq; have BKgq := m0_; clear m0_; clear BKgt; have BKgt := m1_; clear m1_; clear BKgr; have BKgr := m2_; clear m2_; clear BKga; have BKga := m3_; clear m3_; clear HB; have HB := n0_; clear HO; have HO := rHO_; clear rHO_; clear n0_ hb; clear hczgt0 hfzgt0) | ((with_reducible refine gate_callee (f := 38) rfl ?_); refine goesL_ (some 36) rfl rfl Tryd.func38 (by kernel_rfl) rfl #[.int .i64 a2, .int .i64 1] rfl (by (try simp only [List.map_toArray, List.map_cons, List.map_nil]); first | done | rfl | (simp only [List.length_drop, List.length_take]; rfl)) ?_; (with_reducible refine (pwithin_below a2 1 WI1.out _).mono ?_); rintro e w5 ⟨rfl, hb⟩; refine ⟨_, rfl, ?_⟩; have m0_ := kl BKgq hb; have m1_ := kl BKgt hb; have m2_ := kl BKgr hb; have m3_ := kl BKga hb; have rHO_ := Aside0.mk (Kd.R_below HO.out hb); have n0_ := ls4 HB GEgq GEgt GEgr GEga hb; clear BKgq; have BKgq := m0_; clear m0_; clear BKgt; have BKgt := m1_; clear m1_; clear BKgr; have BKgr := m2_; clear m2_; clear BKga; have BKga := m3_; clear m3_; clear HB; have HB := n0_; clear HO; have HO := rHO_; clear rHO_; clear n0_ hb) | ((with_reducible refine gate_callee (f := 38) rfl ?_); (try (refine gate_guard (by rfl) ?_; dsimp only)); refine goesL_ (some 40) rfl rfl Tryd.func38 (by kernel_rfl) rfl #[.int .i64 a3, .int .i64 0] rfl (by (try simp only [List.map_toArray, List.map_cons, List.map_nil]); first | done | rfl | (simp only [List.length_drop, List.length_take]; rfl)) ?_; (with_reducible refine (pwithin_below a3 0 WI2.out _).mono ?_); rintro e w6 ⟨rfl, hb⟩; refine ⟨_, rfl, ?_⟩; have m0_ := kl BKgq hb; have m1_ := kl BKgt hb; have m2_ := kl BKgr hb; have m3_ := kl BKga hb; have rHO_ := Aside0.mk (Kd.R_below HO.out hb); have n0_ := ls4 HB GEgq GEgt GEgr GEga hb; clear BKgq; have BKgq := m0_; clear m0_; clear BKgt; have BKgt := m1_; clear m1_; clear BKgr; have BKgr := m2_; clear m2_; clear BKga; have BKga := m3_; clear m3_; clear HB; have HB := n0_; clear HO; have HO := rHO_; clear rHO_; clear n0_ hb) | ((with_reducible refine gate_callee (f := 39) rfl ?_); refine goesL_ (some 47) rfl rfl Tryd.func39 (by kernel_rfl) rfl #[.pointer (some ⟨ga, 0, none⟩), .int .i64 a2] rfl (by (try simp only [List.map_toArray, List.map_cons, List.map_nil]); first | done | rfl | (simp only [List.length_drop, List.length_take]; rfl)) ?_; (with_reducible refine (hold_calls ga _ _ Ao co l a2 _ _ BKga.out HO.out LN.out HF.out HI.out HFF.out).mono ?_); rintro e w7 ⟨rfl, hb⟩; refine ⟨_, rfl, ?_⟩; have m0_ := kl BKgq hb; have m1_ := kl BKgt hb; have m2_ := kl BKgr hb; have m3_ := kl BKga hb; have rHO_ := Aside0.mk (Kd.R_below HO.out hb); have n0_ := ls4 HB GEgq GEgt GEgr GEga hb; clear BKgq; have BKgq := m0_; clear m0_; clear BKgt; have BKgt := m1_; clear m1_; clear BKgr; have BKgr := m2_; clear m2_; clear BKga; have BKga := m3_; clear m3_; clear HB; have HB := n0_; clear HO; have HO := rHO_; clear rHO_; clear n0_ hb; have hczga0 := bc BKga 0; have hfzga0 := blk_frozen BKga.out 0; have hczga1 := bc BKga 1; have hfzga1 := blk_frozen BKga.out 1; have hczga2 := bc BKga 2; have hfzga2 := blk_frozen BKga.out 2) | ((with_reducible refine gate_dst (N := 70) rfl ?_); refine slice_event (n := 1) (c := 1) ?hg (N := 70) ?hd (cs := #[.int .i64 a2, .int .i64 0, .int .i64 a3]) (t := 54) ?hr ?_; (case hd => rfl); (case hg => rfl); (case hr => first | (go_simp; done) | (go_simp; rfl)); intro gv hg w8 hbox hb; have NEgq_gv := Aside0.mk (ne_of_old (g := gq) (g' := gv) (o := .cells #[.string s, .int .i64 b, .slice A0 l.length c0] 31 (0, 0)) (kb BKgq) (by rw [hg])); have NEgt_gv := Aside0.mk (ne_of_old (g := gt) (g' := gv) (o := .cells #[.slice At tl.length ct] 24 (0, 0)) (kb BKgt) (by rw [hg])); have NEgr_gv := Aside0.mk (ne_of_old (g := gr) (g' := gv) (o := .cells #[.string ⟨#[]⟩, .int .i64 0, .slice none 0 0] 31 (0, 0)) (kb BKgr) (by rw [hg])); have NEga_gv := Aside0.mk (ne_of_old (g := ga) (g' := gv) (o := .cells #[.string s, .int .i64 b, .slice Ao l.length co] 82 (0, 0)) (kb BKga) (by rw [hg])); have NOHO_gv := Aside0.mk (show (Value.slice Ao l.length co).ownBlock ≠ some gv from fun e_ => by have e1_ := Kd.R_lt HO.out gv e_; have e2_ := (show gv = _ from hg); omega); have m0_ := kl BKgq hb; have m1_ := kl BKgt hb; have m2_ := kl BKgr hb; have m3_ := kl BKga hb; have rHO_ := Aside0.mk (Kd.R_below HO.out hb); have n0_ := ls4 HB GEgq GEgt GEgr GEga hb; have BKgv := Aside0.mk hbox; have GEgv := lz4 HB GEgq GEgt GEgr GEga hg; clear BKgq; have BKgq := m0_; clear m0_; clear BKgt; have BKgt := m1_; clear m1_; clear BKgr; have BKgr := m2_; clear m2_; clear BKga; have BKga := m3_; clear m3_; clear HB; have HB := n0_; clear HO; have HO := rHO_; clear rHO_; clear n0_ hb hbox hg) | ((with_reducible refine gate_callee (f := 40) rfl ?_); refine goesL_ (some 71) rfl rfl Tryd.func40 (by kernel_rfl) rfl #[.slice Ao l.length co, .int .i64 (i : Int), .slice (some ⟨gv, 0, none⟩) 1 1] rfl (by (try simp only [List.map_toArray, List.map_cons, List.map_nil]); first | done | rfl) ?_; (with_reducible refine (pi_insert_calls (.slice Ao l.length co) l (⟨a2, 0, a3⟩ : S54) i gv 1 w8 w.heap.size HO.out PLL.out (below_size HB.out) LB.out NOHO_gv.out BKgv.out).mono ?_); rintro e w9 ⟨v2, rfl, hy, hgr, hat⟩; refine ⟨_, rfl, ?_⟩; have mgq_ := Aside0.mk (blk_grown BKgq.out hgr (Kd.R_ne HO.out BKgq.out (by decide))); have mgt_ := Aside0.mk (blk_grown BKgt.out hgr (Kd.R_ne HO.out BKgt.out (by decide))); have mgr_ := Aside0.mk (blk_grown BKgr.out hgr (Kd.R_ne HO.out BKgr.out (by decide))); have mga_ := Aside0.mk (blk_grown BKga.out hgr (Kd.R_ne HO.out BKga.out (by decide))); have HB2 := Aside0.mk (pw_below_grown HB.out _ (below_size HB.out) hgr (fun k hk => Kd.R_base HO.out k hk)); rw [PLE.out] at hy; have HO2 := Aside0.mk hy; clear BKgq BKgt BKgr BKga BKgv HB HO hy hgr hat; have BKgq := mgq_; have BKgt := mgt_; have BKgr := mgr_; have BKga := mga_; have HB := HB2; have HO := HO2; clear mgq_ mgt_ mgr_ mga_ HB2 HO2; obtain ⟨Ar, cr, er⟩ := Kd.R_slice HO.out; subst er; clear hczga0 hfzga0 hczga1 hfzga1 hczga2 hfzga2; have hczga0 := bc BKga 0; have hfzga0 := blk_frozen BKga.out 0; have hczga1 := bc BKga 1; have hfzga1 := blk_frozen BKga.out 1; have hczga2 := bc BKga 2; have hfzga2 := blk_frozen BKga.out 2) | ((with_reducible refine gate_store (t := 29) (p := 74) rfl ?_); refine store_event (t := 29) (p := 74) (v := .tmp 71) (w1 := (w9).setCell ⟨ga, 2, none⟩ (.slice Ar l1.length cr)) ?hg ?ho ?hn ?hr ?_; (case ho => rfl); (case hg => rfl); (case hn => rfl); (case hr => first | (go_simp; done) | (go_simp; rfl)); intro w10 hw_; have m0_ := Aside0.mk (show w10.heap[gq]? = some (.cells #[.string s, .int .i64 b, .slice A0 l.length c0] 31 (0, 0)) from by rw [hw_]; exact (blk_far (p := ⟨ga, 2, none⟩) (BKgq.out) NEgq_ga.out _)); have m1_ := Aside0.mk (show w10.heap[gt]? = some (.cells #[.slice At tl.length ct] 24 (0, 0)) from by rw [hw_]; exact (blk_far (p := ⟨ga, 2, none⟩) (BKgt.out) NEgt_ga.out _)); have m2_ := Aside0.mk (show w10.heap[gr]? = some (.cells #[.string ⟨#[]⟩, .int .i64 0, .slice none 0 0] 31 (0, 0)) from by rw [hw_]; exact (blk_far (p := ⟨ga, 2, none⟩) (BKgr.out) NEgr_ga.out _)); have m3_ := Aside0.mk (show w10.heap[ga]? = some (.cells #[.string s, .int .i64 b, .slice Ar l1.length cr] 82 (0, 0)) from by rw [hw_]; exact (blk_set (BKga.out) 2 _)); have n0_ := Aside0.mk (show Below w.heap.size w w10 from by rw [hw_]; exact (below_set (j := 2) (HB.out) GEga.out)); have rHO_ := Aside0.mk (show Kd.R _ _ w10 _ (fun _ => True) _ _ from by rw [hw_]; exact row_any (Kd.R_far (p := ⟨ga, 2, none⟩) (row_own HO.out) (fun k_ hk_ e_ => (Ne.symm (Kd.R_ne HO.out BKga.out (by decide))) (by rw [hk_]; exact congrArg some e_)) _)); clear BKgq; have BKgq := m0_; clear m0_; clear BKgt; have BKgt := m1_; clear m1_; clear BKgr; have BKgr := m2_; clear m2_; clear BKga; have BKga := m3_; clear m3_; clear HB; have HB := n0_; clear HO; have HO := rHO_; clear rHO_; clear n0_ hw_; clear hczga0 hfzga0 hczga1 hfzga1 hczga2 hfzga2; have hczga0 := bc BKga 0; have hfzga0 := blk_frozen BKga.out 0; have hczga1 := bc BKga 1; have hfzga1 := blk_frozen BKga.out 1; have hczga2 := bc BKga 2; have hfzga2 := blk_frozen BKga.out 2))
  obtain ⟨gh, ch, eh, hgb, hgl, _⟩ := Kd.R_form HO.out L1P.out
  injection eh with eh1 _ eh3
  subst eh1
  subst eh3
  obtain ⟨ad, e1, d1, d2, d3⟩ := at_T54 (Kd.R_reads' HO.out).2.2 (i : Int) (by omega) (by omega)
  cases e1
  rw [X.out, Int.toNat_natCast] at d1 d2 d3
  simp only [Addr.add_lit, Nat.zero_add] at d1 d2 d3
  have D1 := Aside0.mk d1
  have D2 := Aside0.mk d2
  have D3 := Aside0.mk d3
  have GEgh := Aside0.mk hgb
  clear d1 d2 hgb hgl
  go_wp2
  go_region
  generalize hz : (if 1099511627776 - x2 < 30 + (if x2 < a3 then a3 - x2 else 0) then 1099511627776 - x2 else 30 + (if x2 < a3 then a3 - x2 else (0 : Int))) = lim2
  obtain rfl : lim2 = lim := by rw [← hz, ← LIM.out]; unfold mn mx; simp only [show (0 < a3 - x2) = (x2 < a3) from propext ⟨fun _ => by omega, fun _ => by omega⟩]
  clear hz d3
  generalize (if x2 < a3 then a3 - x2 else (0 : Int)) = mq_
  clear hczga0 hfzga0 hczga1 hfzga1 hczga2 hfzga2
  generalize hW_ : w10.drew = wA
  have mgq_ := Aside0.mk (show wA.heap[gq]? = some (.cells #[.string s, .int .i64 b, .slice A0 l.length c0] 31 (0, 0)) from by rw [← hW_]; exact blk_drew BKgq.out)
  have mgt_ := Aside0.mk (show wA.heap[gt]? = some (.cells #[.slice At tl.length ct] 24 (0, 0)) from by rw [← hW_]; exact blk_drew BKgt.out)
  have mgr_ := Aside0.mk (show wA.heap[gr]? = some (.cells #[.string ⟨#[]⟩, .int .i64 0, .slice none 0 0] 31 (0, 0)) from by rw [← hW_]; exact blk_drew BKgr.out)
  have mga_ := Aside0.mk (show wA.heap[ga]? = some (.cells #[.string s, .int .i64 b, .slice (some ⟨gh, 0, none⟩) l1.length cr] 82 (0, 0)) from by rw [← hW_]; exact blk_drew BKga.out)
  have n0_ := Aside0.mk (show Below w.heap.size w wA from by rw [← hW_]; exact below_drew HB.out)
  have r0_ := Aside0.mk (show Kd.R k54 54 wA w.heap.size (fun _ => True) (.slice (some ⟨gh, 0, none⟩) l1.length cr) l1 from by rw [← hW_]; exact Kd.R_drew HO.out)
  have qD1_ := Aside0.mk (show wA.cell? ⟨gh, i * 3, none⟩ = some (.int .i64 x0) from by rw [← hW_]; exact D1.out)
  have qD2_ := Aside0.mk (show wA.cell? ⟨gh, i * 3 + 1, none⟩ = some (.int .i64 x1) from by rw [← hW_]; exact D2.out)
  have qD3_ := Aside0.mk (show wA.cell? ⟨gh, i * 3 + 2, none⟩ = some (.int .i64 x2) from by rw [← hW_]; exact D3.out)
  clear hW_ HB HO D1 D2 D3 BKgq BKgt BKgr BKga
  have BKgq := mgq_
  have BKgt := mgt_
  have BKgr := mgr_
  have BKga := mga_
  have HB := n0_
  have HO := r0_
  have D1 := qD1_
  have D2 := qD2_
  have D3 := qD3_
  clear n0_ r0_ qD1_ qD2_ qD3_ mgq_ mgt_ mgr_ mga_
  go_wp2
  have T0 := Aside0.mk ((blk_cell BKgt.out 0).trans rfl : wA.cell? ⟨gt, 0, none⟩ = some (.slice At tl.length ct))
  have A1 := Aside0.mk ((blk_cell BKga.out 1).trans rfl : wA.cell? ⟨ga, 1, none⟩ = some (.int .i64 b))
  have BD := Aside0.mk (below_drew (Below.refl wA.heap.size wA))
  refine start_ (n := 17) (S := fun w' => w'.cell? ⟨gt, 0, none⟩ = some (.slice At tl.length ct) ∧ w'.cell? ⟨gh, i * 3 + 2, none⟩ = some (.int .i64 x2) ∧ w'.cell? ⟨ga, 1, none⟩ = some (.int .i64 b)) (ds := []) #[false, false, false, false, false, false, false, false, false, false, false, false, false, false, false, false, false] (by kernel_rfl) rfl rfl ⟨T0.out, D3.out, A1.out⟩ (fun hHeld => ?_)
  refine with_tabW prepaid_Reserve.tab15 prepaid_Reserve.bits15 (fun HT_ HW_ => ?_)
  generalize wA.drew = w8 at BD hHeld ⊢
  refine p_ 1 98 HT_ ?_
  refine p_ 2 99 HT_ ?_
  refine p_ 3 100 HT_ ?_
  refine p_ 5 102 HT_ ?_
  refine p_ 6 103 HT_ ?_
  refine p_ 7 104 HT_ ?_
  refine p_ 8 105 HT_ ?_
  refine p_ 10 107 HT_ ?_
  refine t_ 0 97 HT_ HW_ rfl rfl hHeld (by rintro w' ⟨s0, s1, s2⟩; go_simp; with_reducible rfl) ?_
  refine t_ 4 101 HT_ HW_ rfl rfl hHeld (by rintro w' ⟨s0, s1, s2⟩; go_simp; with_reducible rfl) ?_
  refine t_ 9 106 HT_ HW_ rfl rfl hHeld (by rintro w' ⟨s0, s1, s2⟩; go_simp; with_reducible rfl) ?_
  refine o_ 11 108 HT_ (fun K hK => ?_)
  refine goes_ Tryd.func13 (by kernel_rfl) rfl #[.agg #[.slice At tl.length ct], .int .i64 x2, .int .i64 b, .int .i64 lim2] (by rfl) rfl rfl (by simp only [List.map_toArray, List.map_cons, List.map_nil]; rfl) ?_
  with_reducible refine (tariff_Afford.calls At ct tl x2 b lim2 n 0 _ (Kd.C_below HT.out (below_step HB.out BD.out)) HTC.out AFE.out).mono ?_
  rintro e wB ⟨rfl, hb9⟩
  refine ⟨_, rfl, ?_⟩
  have BD3 := Aside0.mk (below_step BD.out hb9)
  clear hb9
  refine hK.out _ _ ⟨(BD3.out.cell (World.block_lt_of_cell? wA _ T0.out)).trans T0.out, (BD3.out.cell (World.block_lt_of_cell? wA _ D3.out)).trans D3.out, (BD3.out.cell (World.block_lt_of_cell? wA _ A1.out)).trans A1.out⟩ (fun hHeld => ?_)
  clear hK K
  refine n_ 108 ?_
  refine p_ 12 96 HT_ ?_
  refine p_ 13 109 HT_ ?_
  refine p_ 14 110 HT_ ?_
  refine p_ 15 17 HT_ ?_
  refine p_ 16 12 HT_ ?_
  refine done_ (done_of HT_.out (by kernel_rfl)) ?_
  
  clear T0 A1
  have mgq_ := Aside0.mk (blk_below (g := gq) (o := .cells #[.string s, .int .i64 b, .slice A0 l.length c0] 31 (0, 0)) BKgq.out BD3.out)
  have mgt_ := Aside0.mk (blk_below (g := gt) (o := .cells #[.slice At tl.length ct] 24 (0, 0)) BKgt.out BD3.out)
  have mgr_ := Aside0.mk (blk_below (g := gr) (o := .cells #[.string ⟨#[]⟩, .int .i64 0, .slice none 0 0] 31 (0, 0)) BKgr.out BD3.out)
  have mga_ := Aside0.mk (blk_below (g := ga) (o := .cells #[.string s, .int .i64 b, .slice (some ⟨gh, 0, none⟩) l1.length cr] 82 (0, 0)) BKga.out BD3.out)
  have n0_ := Aside0.mk (below_step HB.out BD3.out)
  have r0_ := Aside0.mk (Kd.R_below HO.out BD3.out)
  have qD1_ := Aside0.mk ((BD3.out.cell (World.block_lt_of_cell? wA _ D1.out)).trans D1.out)
  have qD2_ := Aside0.mk ((BD3.out.cell (World.block_lt_of_cell? wA _ D2.out)).trans D2.out)
  have qD3_ := Aside0.mk ((BD3.out.cell (World.block_lt_of_cell? wA _ D3.out)).trans D3.out)
  clear HB HO D1 D2 D3 BKgq BKgt BKgr BKga
  have BKgq := mgq_
  have BKgt := mgt_
  have BKgr := mgr_
  have BKga := mga_
  have HB := n0_
  have HO := r0_
  have D1 := qD1_
  have D2 := qD2_
  have D3 := qD3_
  clear n0_ r0_ qD1_ qD2_ qD3_ mgq_ mgt_ mgr_ mga_
  clear BD BD3
  have hd3 := D3.out
  have hczgr0 := bc BKgr 0; have hfzgr0 := blk_frozen BKgr.out 0
  have hczgr1 := bc BKgr 1; have hfzgr1 := blk_frozen BKgr.out 1
  have hczgr2 := bc BKgr 2; have hfzgr2 := blk_frozen BKgr.out 2
  go_wp2
  refine bodyPost_ret (results_ctt rfl _ _ gr 31 #[.string ⟨#[]⟩, .int .i64 0, .slice none 0 0] (0, 0) _ rfl (by (with_reducible repeat (first | refine blk_drewN ?_ _ | refine blk_drew ?_ | refine blk_alloc ?_ _)); exact (blk_set ((blk_set ((blk_set (BKgr.out) 0 _)) 1 _)) 2 _)) Tryd.underlying31 rfl (by kernel_rfl)) rfl ?_
  refine ⟨_, rfl, Kd.R_nil _ _ _ _ _, ?_⟩
  exact below_set (j := 2) (below_set (j := 1) (below_set (j := 0) HB.out GEgr.out) GEgr.out) GEgr.out
end Go.Proofs.YtldpacphackdjaaDoor.Print
