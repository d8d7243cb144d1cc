-- Made out of the translation by a program of this session (a changed copy of the print). Not trusted: Lean checks it.
import Derived.Test.YtncfipboidmfbaaGreatQFnExactRowsOfBandx0
import Derived.Test.YtncfipboidmfbaaGreatQFnExactRowsOfBandx4
namespace Go.Proofs.YtncfipboidmfbaaGreat.QFnExactRowsOfBand
open Go.RowKit Go.Proofs.YtncfipboidmfbaaGreatW.PrintWords Go.Proofs.YtncfipboidmfbaaGreatW.PrintLast Go.Proofs.YtncfipboidmfbaaGreatW.PrintMore
attribute [local go_sem] max2_int min2_int max_two min_two max_three min_three max_four min_four   -- for this text's walks alone
set_option linter.unusedVariables false
set_option linter.unusedSimpArgs false
set_option maxHeartbeats 8000000
set_option maxRecDepth 100000

/-! ### spec_MeetSpans: function 166 -/
def spec_MeetSpans.l0 : Nat → List (S146) → Int → Int → List (S146) → Int → Option ((List (S146)))
 | 0, _, _, _, _, _ => none
 | k + 1, x0, x1, x2, x7, x8 => if x8 < (x0.length : Int) then (if 0 ≤ x8 then (if (mx ((rd_T146 x0 x8).f0) x1) < (mn ((rd_T146 x0 x8).f1) x2) then (if x7.length < 8796093022208 then (spec_MeetSpans.l0 k x0 x1 x2 (x7 ++ [(⟨mx ((rd_T146 x0 x8).f0) x1, mn ((rd_T146 x0 x8).f1) x2⟩ : S146)]) (wrap64 (x8 + 1))) else (none)) else (spec_MeetSpans.l0 k x0 x1 x2 x7 (wrap64 (x8 + 1)))) else (none)) else (some x7)
def spec_MeetSpans.f (k : Nat) (l0 : List (S146)) (a1 : Int) (a2 : Int) : Option ((List (S146))) := (some (([] : List (S146)) : List (S146))).bind fun y221 => ((spec_SpansOk.f k l0).bind fun t224 => (if t224 = true then (spec_MeetSpans.l0 k l0 a1 a2 y221 0) else (some y221)))
def spec_MeetSpans.T7 : Bool × List (List Nat × List Nat) := (true, [([], []), ([], []), ([0, 1], [0, 1]), ([2], [2]), ([3], [3]), ([], []), ([4, 5], [4, 5]), ([], []), ([], []), ([7, 8], [7, 8]), ([9], [9]), ([10], [10]), ([], []), ([11, 12], [11, 12]), ([6, 13], [6, 13]), ([], []), ([15, 14, 0, 1, 2, 3, 4, 5, 6, 7, 8, 9, 10, 11, 12, 13, 14, 15], [14, 15])])
def spec_MeetSpans.B7 : List Nat := [0, 0, 3, 7, 15, 0, 63, 0, 0, 384, 896, 1920, 0, 8064, 16383, 0, 65535]
theorem spec_MeetSpans.tab7 : rtab .any (opsOf Tryz.f166 7) = spec_MeetSpans.T7 := by kernel_rfl
theorem spec_MeetSpans.bits7 : waitsOk spec_MeetSpans.T7.2 spec_MeetSpans.B7 = true := by kernel_rfl
theorem spec_MeetSpans.calls (k : Nat) (A0 : Option Addr) (c0 : Nat) (l0 : List (S146)) (a1 : Int) (a2 : Int) (r : List (S146)) (w : World) (hr0 : Kd.C k146 w A0 l0.length l0) (hc0 : l0.length ≤ c0) (h : spec_MeetSpans.f k l0 a1 a2 = some r) :
  Calls Tryz.prog 166 #[.slice A0 l0.length c0, .int .i64 a1, .int .i64 a2] w fun e w' => ∃ v0_ : Value, e = .returned (v0_) ∧ Kd.R k146 146 w' w.heap.size (fun _ => True) v0_ r ∧ Below w.heap.size w w' := by
 have hu146 := Tryz.underlying146
 have HR0 := Aside0.mk hr0
 have HC0 := Aside0.mk hc0
 clear hr0 hc0
 have HB := Aside0.mk (Below.refl w.heap.size w)
 have H : ((some (([] : List (S146)) : List (S146))).bind fun y221 => ((spec_SpansOk.f k l0).bind fun t224 => (if t224 = true then (spec_MeetSpans.l0 k l0 a1 a2 y221 0) else (some y221)))) = some r := h
 clear h
 obtain ⟨y221, hy221⟩ : ∃ y_ : List (S146), y_ = (([] : List (S146))) := ⟨_, rfl⟩
 replace H : ((spec_SpansOk.f k l0).bind fun t224 => (if t224 = true then (spec_MeetSpans.l0 k l0 a1 a2 y221 0) else (some y221))) = some r := by first | (rw [hy221]; with_reducible exact H) | (have H2_ := (Option.bind_some _ _).symm.trans H; rw [hy221]; with_reducible exact H2_) | (have H2_ := (Option.bind_some _ _).symm.trans H; with_reducible exact H2_) | with_reducible exact H | (rw [hy221]; exact H) | exact H
 have Ny221 := Aside0.mk hy221
 clear hy221
 replace H := bN H
 obtain ⟨t224, A4, H⟩ := H
 by_cases c5 : t224 = true
 ·subst c5
  rw [if_pos rfl] at H
  have H' := Aside0.mk H
  clear H
  go_enter Tryz.func166, Tryz.ntmps166
  go_wp2_with (first | ((with_reducible refine gate_dst (N := 10) rfl ?_); refine Kd.R_lit k146 _ 146 ?hg (N := 10) ?hd (xs := ([] : List (S146))) (inner := []) (ok := fun _ => True) (okp := fun _ => True) ?hr ?hp (fun _ hk => hk) trivial (Below.refl _ _) (Nat.le_refl _) (by simp) ?_; (case hd => rfl); (case hg => rfl); (case hr => first | (go_simp; done) | (go_simp; rfl)); (case hp => exact (Reps.none _ _)); intro v222 w6 ho7 hb hg_ hnew_; clear hg_ hnew_; (first | rw [← Ny221.out] at ho7 | (simp only [Int.reduceToNat] at ho7; rw [← Ny221.out] at ho7)); have HO223 := Aside0.mk (Kd.R_lower ho7 (below_size bS)); replace HB := hB hb; clear hb ho7) | ((with_reducible refine gC 184 ?_); refine cL (some 12) Tryz.func184 #[.slice A0 l0.length c0] ?_; (with_reducible refine (spec_SpansOk.calls k _ _ l0 _ _ ?side1 ?side2 A4.out).mono ?_); (case side1 => exact cS (Kd.C_below HR0.out HB.out)); (case side2 => exact HC0.out); rintro e w' ⟨rfl, ⟨nd, rfl⟩⟩; refine ⟨_, rfl, ?_⟩))
  go_loopg [7, 8] k (fun kq v7 v8 w' => ∃ (x7_1 : List (S146)) (x8_1 : Int), v8 = .int .i64 x8_1 ∧ Aside0 (spec_MeetSpans.l0 kq l0 a1 a2 x7_1 x8_1 = some r) ∧ Aside0 (kq ≤ k) ∧ Aside0 (Kd.R k146 146 w' w.heap.size (fun _ => True) v7 x7_1) ∧ Aside0 (Below w.heap.size w w'))
  case atStart => exact ⟨(y221), (0), (by first | rfl | (simp; done) | (simp [*]; done)), H', ⟨Nat.le_refl _⟩, ⟨by (with_reducible repeat (first | apply Kd.R_alloc | apply Kd.R_drewN | apply Kd.R_drew)); exact HO223.out⟩, ⟨bS⟩⟩
  case round =>
   clear H'
   try clear c1
   try clear p2
   try clear c5
   obtain ⟨x7_1, x8_1, rfl, HA, HK1, HO_7, HB⟩ := hrel
   cases gk with
   | zero => exact absurd HA.out (by simp [spec_MeetSpans.l0])
   | succ k1 =>
    have H := HA.out
    clear HA
    simp only [spec_MeetSpans.l0] at H
    by_cases c8 : x8_1 < (l0.length : Int)
    ·rw [if_pos c8] at H
     have c8b0 : decide (x8_1 < (l0.length : Int)) = true := decide_eq_true c8
     clear c8
     by_cases c9 : 0 ≤ x8_1
     ·rw [if_pos c9] at H
      have c9b0 : decide (0 ≤ x8_1) = true := decide_eq_true c9
      clear c9
      obtain ⟨ji10, hji10⟩ : ∃ j_ : Int, (mx ((rd_T146 l0 x8_1).f0) a1) = j_ := ⟨_, rfl⟩
      replace H : (if (ji10) < (mn ((rd_T146 l0 x8_1).f1) a2) then (if x7_1.length < 8796093022208 then (spec_MeetSpans.l0 k1 l0 a1 a2 (x7_1 ++ [(⟨ji10, mn ((rd_T146 l0 x8_1).f1) a2⟩ : S146)]) (wrap64 (x8_1 + 1))) else (none)) else (spec_MeetSpans.l0 k1 l0 a1 a2 x7_1 (wrap64 (x8_1 + 1)))) = some r := by first | (rw [hji10] at H; exact H) | (simp only [hji10] at H ⊢; exact H)
      have hji10_ : (if ((rd_T146 l0 x8_1).f0) < a1 then a1 else ((rd_T146 l0 x8_1).f0)) = ji10 := hji10
      obtain ⟨ji11, hji11⟩ : ∃ j_ : Int, (mn ((rd_T146 l0 x8_1).f1) a2) = j_ := ⟨_, rfl⟩
      replace H : (if (ji10) < (ji11) then (if x7_1.length < 8796093022208 then (spec_MeetSpans.l0 k1 l0 a1 a2 (x7_1 ++ [(⟨ji10, ji11⟩ : S146)]) (wrap64 (x8_1 + 1))) else (none)) else (spec_MeetSpans.l0 k1 l0 a1 a2 x7_1 (wrap64 (x8_1 + 1)))) = some r := by first | (rw [hji11] at H; exact H) | (simp only [hji11] at H ⊢; exact H)
      have hji11_ : (if a2 < ((rd_T146 l0 x8_1).f1) then a2 else ((rd_T146 l0 x8_1).f1)) = ji11 := hji11
      by_cases c12 : (ji10) < (ji11)
      ·rw [if_pos c12] at H
       have c12b0 : decide ((ji10) < (ji11)) = true := decide_eq_true c12
       clear c12
       by_cases c13 : x7_1.length < 8796093022208
       ·rw [if_pos c13] at H
        have LMc13 := Aside0.mk c13
        clear c13
        obtain ⟨y228, hy228⟩ : ∃ y_ : List (S146), y_ = (x7_1 ++ [(⟨ji10, ji11⟩ : S146)]) := ⟨_, rfl⟩
        replace H : (spec_MeetSpans.l0 k1 l0 a1 a2 y228 (wrap64 (x8_1 + 1))) = some r := by first | (rw [hy228]; with_reducible exact H) | (have H2_ := (Option.bind_some _ _).symm.trans H; rw [hy228]; with_reducible exact H2_) | (have H2_ := (Option.bind_some _ _).symm.trans H; with_reducible exact H2_) | with_reducible exact H | (rw [hy228]; exact H) | exact H
        have Ny228 := Aside0.mk hy228
        clear hy228
        have H' := Aside0.mk H
        clear H
        try go_wp2
        replace HO_7 := Aside0.mk (Kd.R_drew HO_7.out)
        replace HB := Aside0.mk (below_drew1 HB.out)
        have p225 : 0 ≤ (x8_1 : Int) := of_decide_eq_true (by first | (with_reducible assumption) | assumption)
        have q225 : x8_1 < (l0.length : Int) := of_decide_eq_true (by first | (with_reducible assumption) | assumption)
        obtain ⟨ad225, e225, hx225_0, hx225_1⟩ := at_T146 HR0.out x8_1 p225 q225
        have hw225_1 := hx225_1
        have hw225_0 := hx225_0
        cases e225
        replace hx225_0 := (HB.out.cell (World.block_lt_of_cell? w _ hx225_0)).trans hx225_0
        replace hx225_1 := (HB.out.cell (World.block_lt_of_cell? w _ hx225_1)).trans hx225_1
        replace p225 := eq_true p225
        replace q225 := eq_true q225
        have p226 : 0 ≤ (x8_1 : Int) := of_decide_eq_true (by first | (with_reducible assumption) | assumption)
        have q226 : x8_1 < (l0.length : Int) := of_decide_eq_true (by first | (with_reducible assumption) | assumption)
        obtain ⟨ad226, e226, hx226_0, hx226_1⟩ := at_T146 HR0.out x8_1 p226 q226
        have hw226_1 := hx226_1
        have hw226_0 := hx226_0
        obtain rfl : ad225 = ad226 := (by injection e226)
        replace hx226_0 := (HB.out.cell (World.block_lt_of_cell? w _ hx226_0)).trans hx226_0
        replace hx226_1 := (HB.out.cell (World.block_lt_of_cell? w _ hx226_1)).trans hx226_1
        replace p226 := eq_true p226
        replace q226 := eq_true q226
        refine start_ (n := 17) (S := fun w' => w'.cell? (ad225.add ((x8_1).toNat * 2)) = some (.int .i64 ((rd_T146 l0 x8_1).f0)) ∧ w'.cell? ⟨(ad225.add ((x8_1).toNat * 2)).block, (ad225.add ((x8_1).toNat * 2)).off + 1, none⟩ = some (.int .i64 ((rd_T146 l0 x8_1).f1)) ∧ w'.cell? (ad225.add ((x8_1).toNat * 2)) = some (.int .i64 ((rd_T146 l0 x8_1).f0)) ∧ w'.cell? ⟨(ad225.add ((x8_1).toNat * 2)).block, (ad225.add ((x8_1).toNat * 2)).off + 1, none⟩ = some (.int .i64 ((rd_T146 l0 x8_1).f1))) (ds := []) #[false, false, false, false, false, false, false, false, false, false, false, false, false, false, false, false, false] (by kernel_rfl) rfl rfl ⟨((HB.out.cell (World.block_lt_of_cell? w _ hw225_0)).trans hw225_0), ((HB.out.cell (World.block_lt_of_cell? w _ hw225_1)).trans hw225_1), ((HB.out.cell (World.block_lt_of_cell? w _ hw226_0)).trans hw226_0), ((HB.out.cell (World.block_lt_of_cell? w _ hw226_1)).trans hw226_1)⟩ (fun hHeld => ?_); refine with_tabW spec_MeetSpans.tab7 spec_MeetSpans.bits7 (fun HT_ HW_ => ?_)
        generalize wr.drew = w14 at HO_7 HB hx225_0 hx225_1 hx226_0 hx226_1 hHeld ⊢
        refine pU 0 (some 21) #[true, false, false, false, false, false, false, false, false, false, false, false, false, false, false, false, false] ?_
        refine pU 1 (some 22) #[true, true, false, false, false, false, false, false, false, false, false, false, false, false, false, false, false] ?_
        refine pU 2 (some 23) #[true, true, true, false, false, false, false, false, false, false, false, false, false, false, false, false, false] ?_
        refine pU 3 (some 24) #[true, true, true, true, false, false, false, false, false, false, false, false, false, false, false, false, false] ?_
        refine pU 5 (some 26) #[true, true, true, true, false, true, false, false, false, false, false, false, false, false, false, false, false] ?_
        refine pU 7 (some 28) #[true, true, true, true, false, true, false, true, false, false, false, false, false, false, false, false, false] ?_
        refine pU 8 (some 29) #[true, true, true, true, false, true, false, true, true, false, false, false, false, false, false, false, false] ?_
        refine pU 9 (some 30) #[true, true, true, true, false, true, false, true, true, true, false, false, false, false, false, false, false] ?_
        refine pU 10 (some 31) #[true, true, true, true, false, true, false, true, true, true, true, false, false, false, false, false, false] ?_
        refine pU 12 (some 33) #[true, true, true, true, false, true, false, true, true, true, true, false, true, false, false, false, false] ?_
        refine tK 4 (some 25) #[true, true, true, true, true, true, false, true, true, true, true, false, true, false, false, false, false] ?_
        refine pU 6 (some 27) #[true, true, true, true, true, true, true, true, true, true, true, false, true, false, false, false, false] ?_
        refine tK 11 (some 32) #[true, true, true, true, true, true, true, true, true, true, true, true, true, false, false, false, false] ?_
        refine pU 13 (some 34) #[true, true, true, true, true, true, true, true, true, true, true, true, true, true, false, false, false] ?_
        refine pU 14 (some 35) #[true, true, true, true, true, true, true, true, true, true, true, true, true, true, true, false, false] ?_
        refine one_ (i := 15) (N := some 9) #[true, true, true, true, true, true, true, true, true, true, true, true, true, true, true, true, false] rfl rfl (one_of HT_.out (by kernel_rfl)) (by decide) (fun K hK => ?_)
        refine box_step ?hg (N := 9) ?hd (cs := #[.int .i64 0, .int .i64 0]) (t := 146) ?hr ?_; (case hd => rfl); (case hg => rfl); (case hr => first | (go_simp; done) | (go_simp; rfl))
        intro gb227 hg w15 hbox hb
        have BK227 := Aside0.mk (hbox)
        have GW227 := gE hg
        have GE227 := gE hg
        replace HO_7 := Aside0.mk (Kd.R_below (Kd.R_elderB (rS HO_7) gb227 (Nat.le_of_eq hg.symm)) hb)
        replace HB := hB hb
        clear hb hg
        refine hK.out _ _ ⟨((HB.out.cell (World.block_lt_of_cell? w _ hw225_0)).trans hw225_0), ((HB.out.cell (World.block_lt_of_cell? w _ hw225_1)).trans hw225_1), ((HB.out.cell (World.block_lt_of_cell? w _ hw226_0)).trans hw226_0), ((HB.out.cell (World.block_lt_of_cell? w _ hw226_1)).trans hw226_1)⟩ (fun hHeld => ?_)
        clear hK K
        refine norm_ (a' := ?_) ?_ ?_
        rotate_left
        ·show Act.put _ (some 9) _ = _
         simp only [Act.put, List.setIfInBounds_toArray, List.set_cons_zero, List.set_cons_succ, i64_w, i32_w]
         rfl
        refine one_ (i := 16) (N := none) #[true, true, true, true, true, true, true, true, true, true, true, true, true, true, true, true, true] rfl rfl (one_of HT_.out (by kernel_rfl)) (by decide) (fun K hK => ?_)
        have hs16 : w15.cell? ⟨gb227, 0, none⟩ = some (.int .i64 0) := (blk_cell BK227.out 0).trans rfl
        have hfs16 := blk_frozen BK227.out 0
        have hs17 : w15.cell? ⟨gb227, 1, none⟩ = some (.int .i64 0) := (blk_cell BK227.out 1).trans rfl
        have hfs17 := blk_frozen BK227.out 1
        refine skip_ (w1 := ?_) (by rfl) rfl ?_ ?_
        rotate_left
        ·go_simp
         rfl
        refine hK.out _ _ ⟨((cell_far (p := ⟨gb227, _, none⟩) (nA hw225_0 GW227) _).trans (((cell_far (p := ⟨gb227, _, none⟩) (nA hw225_0 GW227) _).trans (hHeld.1)))), ((cell_far (p := ⟨gb227, _, none⟩) (nA hw225_1 GW227) _).trans (((cell_far (p := ⟨gb227, _, none⟩) (nA hw225_1 GW227) _).trans (hHeld.2.1)))), ((cell_far (p := ⟨gb227, _, none⟩) (nA hw226_0 GW227) _).trans (((cell_far (p := ⟨gb227, _, none⟩) (nA hw226_0 GW227) _).trans (hHeld.2.2.1)))), ((cell_far (p := ⟨gb227, _, none⟩) (nA hw226_1 GW227) _).trans (((cell_far (p := ⟨gb227, _, none⟩) (nA hw226_1 GW227) _).trans (hHeld.2.2.2))))⟩ (fun hHeld => ?_)
        clear hK K
        refine done_ (done_of HT_.out (by kernel_rfl)) ?_
        have hz18 := cz2 BK227
        try go_wp2_with (first | ((with_reducible refine gate_builtin (b := .append) (xs := #[.tmp 41, .tmp 43]) rfl ?_); at_builtin; refine Kd.R_append k146 (w0 := w) w.heap.size rfl (.tmp 41) (.tmp 43) 143 146 (.agg #[(.int .i64 0), (.int .i64 0)]) 16 rfl Tryz.underlying143 info146 rfl (by decide) (by omega) u7 x7_1 (⟨ji10, ji11⟩ : S146) [.int .i64 ji10, .int .i64 ji11] (fun k_ => k_ ≠ gb227) (fun _ => False) rfl (by first | (go_simp; done) | (go_simp; rfl)) ?aP (fun _ hk => hk.elim) ?aF ?aO ?aB ?aS ?aL ?_; (case aP => exact k146_mkM _ _ _ (⟨ji10, ji11⟩ : S146)); (case aB => exact bS); (case aF => exact (fun k_ hk => Kd.freshB (g := gb227) (o := .cells #[.int .i64 ji10, .int .i64 ji11] 146 (0, 0)) kS k_ hk)); (case aO => exact (by (with_reducible repeat (first | apply Kd.R_alloc | apply Kd.R_drewN | apply Kd.R_drew)); exact Kd.R_mono (Kd.R_far (p := ⟨gb227, 1, none⟩) (Kd.R_far (p := ⟨gb227, 0, none⟩) (Kd.R_mono HO_7.out (fun k_ hk => (⟨hk, hk.2⟩ : _ ∧ k_ ≠ gb227))) (fun _ hk => hk.2) (.int .i64 ji10)) (fun _ hk => hk.2) (.int .i64 ji11)) (fun _ hk => hk.1.2))); (case aS => exact (below_size bS)); (case aL => have := LMc13.out; omega); intro v229 w19 ho hb hg hat; rw [← Ny228.out] at ho; have HO230 := Aside0.mk (ho); replace BK227 := Aside0.mk (blk_grown (g := gb227) (o := .cells #[.int .i64 ji10, .int .i64 ji11] 146 (0, 0)) kS hg (Kd.R_away HO_7.out (fun _ hk => hk.2))); replace HB := Aside0.mk (hb); clear HO_7; clear ho hb hg hat))
        go_roundg k1
        case measure => have := HK1.out; omega
        case rel => exact ⟨(y228), (wrap64 (x8_1 + 1)), (by first | rfl | (simp; done) | (simp [*]; done)), H', ⟨by have := HK1.out; omega⟩, ⟨by (with_reducible repeat (first | apply Kd.R_alloc | apply Kd.R_drewN | apply Kd.R_drew)); exact Kd.R_mono HO230.out (fun _ hk => trivial)⟩, ⟨bS⟩⟩
       ·rw [if_neg c13] at H
        exact absurd H (by simp)
      ·rw [if_neg c12] at H
       have c12b0 : decide ((ji10) < (ji11)) = false := decide_eq_false c12
       clear c12
       have H' := Aside0.mk H
       clear H
       try go_wp2
       replace HO_7 := Aside0.mk (Kd.R_drew HO_7.out)
       replace HB := Aside0.mk (below_drew1 HB.out)
       have p225 : 0 ≤ (x8_1 : Int) := of_decide_eq_true (by first | (with_reducible assumption) | assumption)
       have q225 : x8_1 < (l0.length : Int) := of_decide_eq_true (by first | (with_reducible assumption) | assumption)
       obtain ⟨ad225, e225, hx225_0, hx225_1⟩ := at_T146 HR0.out x8_1 p225 q225
       have hw225_1 := hx225_1
       have hw225_0 := hx225_0
       cases e225
       replace hx225_0 := (HB.out.cell (World.block_lt_of_cell? w _ hx225_0)).trans hx225_0
       replace hx225_1 := (HB.out.cell (World.block_lt_of_cell? w _ hx225_1)).trans hx225_1
       replace p225 := eq_true p225
       replace q225 := eq_true q225
       have p226 : 0 ≤ (x8_1 : Int) := of_decide_eq_true (by first | (with_reducible assumption) | assumption)
       have q226 : x8_1 < (l0.length : Int) := of_decide_eq_true (by first | (with_reducible assumption) | assumption)
       obtain ⟨ad226, e226, hx226_0, hx226_1⟩ := at_T146 HR0.out x8_1 p226 q226
       have hw226_1 := hx226_1
       have hw226_0 := hx226_0
       obtain rfl : ad225 = ad226 := (by injection e226)
       replace hx226_0 := (HB.out.cell (World.block_lt_of_cell? w _ hx226_0)).trans hx226_0
       replace hx226_1 := (HB.out.cell (World.block_lt_of_cell? w _ hx226_1)).trans hx226_1
       replace p226 := eq_true p226
       replace q226 := eq_true q226
       refine start_ (n := 17) (S := fun w' => w'.cell? (ad225.add ((x8_1).toNat * 2)) = some (.int .i64 ((rd_T146 l0 x8_1).f0)) ∧ w'.cell? ⟨(ad225.add ((x8_1).toNat * 2)).block, (ad225.add ((x8_1).toNat * 2)).off + 1, none⟩ = some (.int .i64 ((rd_T146 l0 x8_1).f1)) ∧ w'.cell? (ad225.add ((x8_1).toNat * 2)) = some (.int .i64 ((rd_T146 l0 x8_1).f0)) ∧ w'.cell? ⟨(ad225.add ((x8_1).toNat * 2)).block, (ad225.add ((x8_1).toNat * 2)).off + 1, none⟩ = some (.int .i64 ((rd_T146 l0 x8_1).f1))) (ds := []) #[false, false, false, false, false, false, false, false, false, false, false, false, false, false, false, false, false] (by kernel_rfl) rfl rfl ⟨((HB.out.cell (World.block_lt_of_cell? w _ hw225_0)).trans hw225_0), ((HB.out.cell (World.block_lt_of_cell? w _ hw225_1)).trans hw225_1), ((HB.out.cell (World.block_lt_of_cell? w _ hw226_0)).trans hw226_0), ((HB.out.cell (World.block_lt_of_cell? w _ hw226_1)).trans hw226_1)⟩ (fun hHeld => ?_); refine with_tabW spec_MeetSpans.tab7 spec_MeetSpans.bits7 (fun HT_ HW_ => ?_)
       generalize wr.drew = w20 at HO_7 HB hx225_0 hx225_1 hx226_0 hx226_1 hHeld ⊢
       refine pU 0 (some 21) #[true, false, false, false, false, false, false, false, false, false, false, false, false, false, false, false, false] ?_
       refine pU 1 (some 22) #[true, true, false, false, false, false, false, false, false, false, false, false, false, false, false, false, false] ?_
       refine pU 2 (some 23) #[true, true, true, false, false, false, false, false, false, false, false, false, false, false, false, false, false] ?_
       refine pU 3 (some 24) #[true, true, true, true, false, false, false, false, false, false, false, false, false, false, false, false, false] ?_
       refine pU 5 (some 26) #[true, true, true, true, false, true, false, false, false, false, false, false, false, false, false, false, false] ?_
       refine pU 7 (some 28) #[true, true, true, true, false, true, false, true, false, false, false, false, false, false, false, false, false] ?_
       refine pU 8 (some 29) #[true, true, true, true, false, true, false, true, true, false, false, false, false, false, false, false, false] ?_
       refine pU 9 (some 30) #[true, true, true, true, false, true, false, true, true, true, false, false, false, false, false, false, false] ?_
       refine pU 10 (some 31) #[true, true, true, true, false, true, false, true, true, true, true, false, false, false, false, false, false] ?_
       refine pU 12 (some 33) #[true, true, true, true, false, true, false, true, true, true, true, false, true, false, false, false, false] ?_
       refine tK 4 (some 25) #[true, true, true, true, true, true, false, true, true, true, true, false, true, false, false, false, false] ?_
       refine pU 6 (some 27) #[true, true, true, true, true, true, true, true, true, true, true, false, true, false, false, false, false] ?_
       refine tK 11 (some 32) #[true, true, true, true, true, true, true, true, true, true, true, true, true, false, false, false, false] ?_
       refine pU 13 (some 34) #[true, true, true, true, true, true, true, true, true, true, true, true, true, true, false, false, false] ?_
       refine pU 14 (some 35) #[true, true, true, true, true, true, true, true, true, true, true, true, true, true, true, false, false] ?_
       refine one_ (i := 15) (N := some 9) #[true, true, true, true, true, true, true, true, true, true, true, true, true, true, true, true, false] rfl rfl (one_of HT_.out (by kernel_rfl)) (by decide) (fun K hK => ?_)
       refine box_step ?hg (N := 9) ?hd (cs := #[.int .i64 0, .int .i64 0]) (t := 146) ?hr ?_; (case hd => rfl); (case hg => rfl); (case hr => first | (go_simp; done) | (go_simp; rfl))
       intro gb227 hg w21 hbox hb
       have BK227 := Aside0.mk (hbox)
       have GW227 := gE hg
       have GE227 := gE hg
       replace HO_7 := Aside0.mk (Kd.R_below (Kd.R_elderB (rS HO_7) gb227 (Nat.le_of_eq hg.symm)) hb)
       replace HB := hB hb
       clear hb hg
       refine hK.out _ _ ⟨((HB.out.cell (World.block_lt_of_cell? w _ hw225_0)).trans hw225_0), ((HB.out.cell (World.block_lt_of_cell? w _ hw225_1)).trans hw225_1), ((HB.out.cell (World.block_lt_of_cell? w _ hw226_0)).trans hw226_0), ((HB.out.cell (World.block_lt_of_cell? w _ hw226_1)).trans hw226_1)⟩ (fun hHeld => ?_)
       clear hK K
       refine norm_ (a' := ?_) ?_ ?_
       rotate_left
       ·show Act.put _ (some 9) _ = _
        simp only [Act.put, List.setIfInBounds_toArray, List.set_cons_zero, List.set_cons_succ, i64_w, i32_w]
        rfl
       refine one_ (i := 16) (N := none) #[true, true, true, true, true, true, true, true, true, true, true, true, true, true, true, true, true] rfl rfl (one_of HT_.out (by kernel_rfl)) (by decide) (fun K hK => ?_)
       have hs22 : w21.cell? ⟨gb227, 0, none⟩ = some (.int .i64 0) := (blk_cell BK227.out 0).trans rfl
       have hfs22 := blk_frozen BK227.out 0
       have hs23 : w21.cell? ⟨gb227, 1, none⟩ = some (.int .i64 0) := (blk_cell BK227.out 1).trans rfl
       have hfs23 := blk_frozen BK227.out 1
       refine skip_ (w1 := ?_) (by rfl) rfl ?_ ?_
       rotate_left
       ·go_simp
        rfl
       refine hK.out _ _ ⟨((cell_far (p := ⟨gb227, _, none⟩) (nA hw225_0 GW227) _).trans (((cell_far (p := ⟨gb227, _, none⟩) (nA hw225_0 GW227) _).trans (hHeld.1)))), ((cell_far (p := ⟨gb227, _, none⟩) (nA hw225_1 GW227) _).trans (((cell_far (p := ⟨gb227, _, none⟩) (nA hw225_1 GW227) _).trans (hHeld.2.1)))), ((cell_far (p := ⟨gb227, _, none⟩) (nA hw226_0 GW227) _).trans (((cell_far (p := ⟨gb227, _, none⟩) (nA hw226_0 GW227) _).trans (hHeld.2.2.1)))), ((cell_far (p := ⟨gb227, _, none⟩) (nA hw226_1 GW227) _).trans (((cell_far (p := ⟨gb227, _, none⟩) (nA hw226_1 GW227) _).trans (hHeld.2.2.2))))⟩ (fun hHeld => ?_)
       clear hK K
       refine done_ (done_of HT_.out (by kernel_rfl)) ?_
       have hz24 := cz2 BK227
       try go_wp2
       go_roundg k1
       case measure => have := HK1.out; omega
       case rel => exact ⟨(x7_1), (wrap64 (x8_1 + 1)), (by first | rfl | (simp; done) | (simp [*]; done)), H', ⟨by have := HK1.out; omega⟩, ⟨by (with_reducible repeat (first | apply Kd.R_alloc | apply Kd.R_drewN | apply Kd.R_drew)); exact Kd.R_mono (Kd.R_far (p := ⟨gb227, 1, none⟩) (Kd.R_far (p := ⟨gb227, 0, none⟩) (Kd.R_mono HO_7.out (fun k_ hk => (⟨hk, hk.2⟩ : _ ∧ k_ ≠ gb227))) (fun _ hk => hk.2) (.int .i64 ji10)) (fun _ hk => hk.2) (.int .i64 ji11)) (fun _ hk => trivial)⟩, ⟨bS⟩⟩
     ·rw [if_neg c9] at H
      exact absurd H (by simp)
    ·rw [if_neg c8] at H
     have c8b0 : decide (x8_1 < (l0.length : Int)) = false := decide_eq_false c8
     clear c8
     obtain rfl := Option.some.inj H
     simp only [Option.some.injEq, Prod.mk.injEq] at H
     obtain ⟨rfl⟩ := H
     go_wp2
     go_ret
     exact ⟨_, eS, by (with_reducible repeat (first | apply Kd.R_alloc | apply Kd.R_drewN | apply Kd.R_drew)); exact HO_7.out, bS⟩
 ·obtain rfl := Bool.eq_false_iff.mpr c5
  rw [if_neg nF] at H
  obtain rfl := Option.some.inj H
  simp only [Option.some.injEq, Prod.mk.injEq] at H
  obtain ⟨rfl⟩ := H
  go_enter Tryz.func166, Tryz.ntmps166
  go_wp2_with (first | ((with_reducible refine gate_dst (N := 10) rfl ?_); refine Kd.R_lit k146 _ 146 ?hg (N := 10) ?hd (xs := ([] : List (S146))) (inner := []) (ok := fun _ => True) (okp := fun _ => True) ?hr ?hp (fun _ hk => hk) trivial (Below.refl _ _) (Nat.le_refl _) (by simp) ?_; (case hd => rfl); (case hg => rfl); (case hr => first | (go_simp; done) | (go_simp; rfl)); (case hp => exact (Reps.none _ _)); intro v222 w25 ho26 hb hg_ hnew_; clear hg_ hnew_; (first | rw [← Ny221.out] at ho26 | (simp only [Int.reduceToNat] at ho26; rw [← Ny221.out] at ho26)); have HO223 := Aside0.mk (Kd.R_lower ho26 (below_size bS)); replace HB := hB hb; clear hb ho26) | ((with_reducible refine gC 184 ?_); refine cL (some 12) Tryz.func184 #[.slice A0 l0.length c0] ?_; (with_reducible refine (spec_SpansOk.calls k _ _ l0 _ _ ?side1 ?side2 A4.out).mono ?_); (case side1 => exact cS (Kd.C_below HR0.out HB.out)); (case side2 => exact HC0.out); rintro e w' ⟨rfl, ⟨nd, rfl⟩⟩; refine ⟨_, rfl, ?_⟩))
  go_ret
  exact ⟨_, eS, by (with_reducible repeat (first | apply Kd.R_alloc | apply Kd.R_drewN | apply Kd.R_drew)); exact HO223.out, bS⟩

/-! ### spec_l08Crosses: function 192 -/
def spec_l08Crosses.f (a0_0 : Int) (a0_1 : Int) (a1_0 : Int) (a1_1 : Int) (a2 : Int) (a3 : Int) : Option (Bool) := if ((decide ((wrap64 (2 * a0_1)) > (wrap64 ((wrap64 (2 * a3)) + 1)))) == (decide ((wrap64 (2 * a1_1)) > (wrap64 ((wrap64 (2 * a3)) + 1))))) = true then (some false) else (if a0_1 > a1_1 then (some (decide ((wrap64 ((wrap64 ((wrap64 ((wrap64 ((wrap64 (2 * a2)) + 1)) - (wrap64 (2 * a1_0)))) * 2)) * (wrap64 (a0_1 - a1_1)))) < (wrap64 ((wrap64 ((wrap64 ((wrap64 ((wrap64 (2 * a3)) + 1)) - (wrap64 (2 * a1_1)))) * 2)) * (wrap64 (a0_0 - a1_0))))))) else (some (decide ((wrap64 ((wrap64 ((wrap64 ((wrap64 ((wrap64 (2 * a2)) + 1)) - (wrap64 (2 * a0_0)))) * 2)) * (wrap64 (a1_1 - a0_1)))) < (wrap64 ((wrap64 ((wrap64 ((wrap64 ((wrap64 (2 * a3)) + 1)) - (wrap64 (2 * a0_1)))) * 2)) * (wrap64 (a1_0 - a0_0))))))))
theorem spec_l08Crosses.calls (a0_0 : Int) (a0_1 : Int) (a1_0 : Int) (a1_1 : Int) (a2 : Int) (a3 : Int) (r : Bool) (w : World) (h : spec_l08Crosses.f a0_0 a0_1 a1_0 a1_1 a2 a3 = some r) :
  Calls Tryz.prog 192 #[.agg #[.int .i64 a0_0, .int .i64 a0_1], .agg #[.int .i64 a1_0, .int .i64 a1_1], .int .i64 a2, .int .i64 a3] w fun e w' => e = .returned (.bool r) ∧ Below w.heap.size w w' := by
 have hu151 := Tryz.underlying151
 have HB := Aside0.mk (Below.refl w.heap.size w)
 have H : (if ((decide ((wrap64 (2 * a0_1)) > (wrap64 ((wrap64 (2 * a3)) + 1)))) == (decide ((wrap64 (2 * a1_1)) > (wrap64 ((wrap64 (2 * a3)) + 1))))) = true then (some false) else (if a0_1 > a1_1 then (some (decide ((wrap64 ((wrap64 ((wrap64 ((wrap64 ((wrap64 (2 * a2)) + 1)) - (wrap64 (2 * a1_0)))) * 2)) * (wrap64 (a0_1 - a1_1)))) < (wrap64 ((wrap64 ((wrap64 ((wrap64 ((wrap64 (2 * a3)) + 1)) - (wrap64 (2 * a1_1)))) * 2)) * (wrap64 (a0_0 - a1_0))))))) else (some (decide ((wrap64 ((wrap64 ((wrap64 ((wrap64 ((wrap64 (2 * a2)) + 1)) - (wrap64 (2 * a0_0)))) * 2)) * (wrap64 (a1_1 - a0_1)))) < (wrap64 ((wrap64 ((wrap64 ((wrap64 ((wrap64 (2 * a3)) + 1)) - (wrap64 (2 * a0_1)))) * 2)) * (wrap64 (a1_0 - a0_0))))))))) = some r := h
 clear h
 by_cases c5 : ((decide ((wrap64 (2 * a0_1)) > (wrap64 ((wrap64 (2 * a3)) + 1)))) == (decide ((wrap64 (2 * a1_1)) > (wrap64 ((wrap64 (2 * a3)) + 1))))) = true
 ·rw [if_pos c5] at H
  have c5b0 : ((decide ((wrap64 (2 * a0_1)) > (wrap64 ((wrap64 (2 * a3)) + 1)))) == (decide ((wrap64 (2 * a1_1)) > (wrap64 ((wrap64 (2 * a3)) + 1))))) = true := c5
  (try (have c5b1 : decide ((decide ((wrap64 (2 * a0_1)) > (wrap64 ((wrap64 (2 * a3)) + 1)))) = (decide ((wrap64 (2 * a1_1)) > (wrap64 ((wrap64 (2 * a3)) + 1))))) = true := by simpa using c5))
  (try (have c5b2 : ((decide ((wrap64 (2 * a0_1)) > (wrap64 ((wrap64 (2 * a3)) + 1)))) == (decide ((wrap64 (2 * a1_1)) > (wrap64 ((wrap64 (2 * a3)) + 1))))) = true := by simpa using c5))
  clear c5
  obtain rfl := Option.some.inj H
  simp only [Option.some.injEq, Prod.mk.injEq] at H
  obtain ⟨rfl⟩ := H
  go_enter Tryz.func192, Tryz.ntmps192
  go_wp2_with (first | ((with_reducible refine gD 4 ?_); refine bxE #[.int .i64 a0_0, .int .i64 a0_1] 151 ?_; intro gb231 hg w6 BK231 hb; have GW231 := gE hg; have GE231 := gE hg; replace HB := hB hb; clear hb hg) | ((with_reducible refine gD 5 ?_); refine bxE #[.int .i64 a1_0, .int .i64 a1_1] 151 ?_; intro gb232 hg w7 BK232 hb; have GW232 := gE hg; have GE232 := gE hg; have NB231_232 := nL (g := gb231) hg; have NB232_231 := nG (g := gb231) hg; replace BK231 := kB (g := gb231) hb; replace HB := hB hb; clear hb hg; have hnb8 := NB231_232.out; have hnc8 := NB232_231.out; have hz9 := cz2 BK231; have hz10 := cz2 BK232))
  go_ret
  exact ⟨eS, bS⟩
 ·rw [if_neg c5] at H
  have c5b0 : ((decide ((wrap64 (2 * a0_1)) > (wrap64 ((wrap64 (2 * a3)) + 1)))) == (decide ((wrap64 (2 * a1_1)) > (wrap64 ((wrap64 (2 * a3)) + 1))))) = false := by simpa using c5
  (try (have c5b1 : decide ((decide ((wrap64 (2 * a0_1)) > (wrap64 ((wrap64 (2 * a3)) + 1)))) = (decide ((wrap64 (2 * a1_1)) > (wrap64 ((wrap64 (2 * a3)) + 1))))) = false := by simpa using c5))
  (try (have c5b2 : ((decide ((wrap64 (2 * a0_1)) > (wrap64 ((wrap64 (2 * a3)) + 1)))) == (decide ((wrap64 (2 * a1_1)) > (wrap64 ((wrap64 (2 * a3)) + 1))))) = false := by simpa using c5))
  (try (have c5b3 : ¬ ((decide ((wrap64 (2 * a0_1)) > (wrap64 ((wrap64 (2 * a3)) + 1)))) = (decide ((wrap64 (2 * a1_1)) > (wrap64 ((wrap64 (2 * a3)) + 1))))) := by simpa using c5))
  clear c5
  by_cases c11 : a0_1 > a1_1
  ·rw [if_pos c11] at H
   have c11b0 : decide (a1_1 < a0_1) = true := decide_eq_true c11
   clear c11
   obtain rfl := Option.some.inj H
   simp only [Option.some.injEq, Prod.mk.injEq] at H
   obtain ⟨rfl⟩ := H
   go_enter Tryz.func192, Tryz.ntmps192
   go_wp2_with (first | ((with_reducible refine gD 4 ?_); refine bxE #[.int .i64 a0_0, .int .i64 a0_1] 151 ?_; intro gb231 hg w12 BK231 hb; have GW231 := gE hg; have GE231 := gE hg; replace HB := hB hb; clear hb hg) | ((with_reducible refine gD 5 ?_); refine bxE #[.int .i64 a1_0, .int .i64 a1_1] 151 ?_; intro gb232 hg w13 BK232 hb; have GW232 := gE hg; have GE232 := gE hg; have NB231_232 := nL (g := gb231) hg; have NB232_231 := nG (g := gb231) hg; replace BK231 := kB (g := gb231) hb; replace HB := hB hb; clear hb hg; have hnb14 := NB231_232.out; have hnc14 := NB232_231.out; have hz15 := cz2 BK231; have hz16 := cz2 BK232))
   go_ret
   exact ⟨eS, bS⟩
  ·rw [if_neg c11] at H
   have c11b0 : decide (a1_1 < a0_1) = false := decide_eq_false c11
   clear c11
   obtain rfl := Option.some.inj H
   simp only [Option.some.injEq, Prod.mk.injEq] at H
   obtain ⟨rfl⟩ := H
   go_enter Tryz.func192, Tryz.ntmps192
   go_wp2_with (first | ((with_reducible refine gD 4 ?_); refine bxE #[.int .i64 a0_0, .int .i64 a0_1] 151 ?_; intro gb231 hg w17 BK231 hb; have GW231 := gE hg; have GE231 := gE hg; replace HB := hB hb; clear hb hg) | ((with_reducible refine gD 5 ?_); refine bxE #[.int .i64 a1_0, .int .i64 a1_1] 151 ?_; intro gb232 hg w18 BK232 hb; have GW232 := gE hg; have GE232 := gE hg; have NB231_232 := nL (g := gb231) hg; have NB232_231 := nG (g := gb231) hg; replace BK231 := kB (g := gb231) hb; replace HB := hB hb; clear hb hg; have hnb19 := NB231_232.out; have hnc19 := NB232_231.out; have hz20 := cz2 BK231; have hz21 := cz2 BK232))
   go_ret
   exact ⟨eS, bS⟩

end Go.Proofs.YtncfipboidmfbaaGreat.QFnExactRowsOfBand
