-- Made out of the translation by a program of this session (a changed copy of the print). Not trusted: Lean checks it.
import Derived.Test.YtncfipboidmfbaaGreatQFnExactAddToBandx0
import Derived.Test.YtncfipboidmfbaaGreatQFnExactAddToBandx2
namespace Go.Proofs.YtncfipboidmfbaaGreat.QFnExactAddToBand
open Go.RowKit Go.Proofs.YtncfipboidmfbaaGreatW.PrintWords Go.Proofs.YtncfipboidmfbaaGreatW.PrintLast Go.Proofs.YtncfipboidmfbaaGreatW.PrintMore
attribute [local go_sem] max2_int min2_int max_two min_two max_three min_three max_four min_four   -- for this text's walks alone
set_option linter.unusedVariables false
set_option linter.unusedSimpArgs false
set_option maxHeartbeats 8000000
set_option maxRecDepth 100000

/-! ### spec_MeetSpans: function 166 -/
def spec_MeetSpans.l0 : Nat → List (S146) → Int → Int → List (S146) → Int → Option ((List (S146)))
 | 0, _, _, _, _, _ => none
 | k + 1, x0, x1, x2, x7, x8 => if x8 < (x0.length : Int) then (if 0 ≤ x8 then (if (mx ((rd_T146 x0 x8).f0) x1) < (mn ((rd_T146 x0 x8).f1) x2) then (if x7.length < 8796093022208 then (spec_MeetSpans.l0 k x0 x1 x2 (x7 ++ [(⟨mx ((rd_T146 x0 x8).f0) x1, mn ((rd_T146 x0 x8).f1) x2⟩ : S146)]) (wrap64 (x8 + 1))) else (none)) else (spec_MeetSpans.l0 k x0 x1 x2 x7 (wrap64 (x8 + 1)))) else (none)) else (some x7)
def spec_MeetSpans.f (k : Nat) (l0 : List (S146)) (a1 : Int) (a2 : Int) : Option ((List (S146))) := (some (([] : List (S146)) : List (S146))).bind fun y320 => ((spec_SpansOk.f k l0).bind fun t323 => (if t323 = true then (spec_MeetSpans.l0 k l0 a1 a2 y320 0) else (some y320)))
def spec_MeetSpans.T7 : Bool × List (List Nat × List Nat) := (true, [([], []), ([], []), ([0, 1], [0, 1]), ([2], [2]), ([3], [3]), ([], []), ([4, 5], [4, 5]), ([], []), ([], []), ([7, 8], [7, 8]), ([9], [9]), ([10], [10]), ([], []), ([11, 12], [11, 12]), ([6, 13], [6, 13]), ([], []), ([15, 14, 0, 1, 2, 3, 4, 5, 6, 7, 8, 9, 10, 11, 12, 13, 14, 15], [14, 15])])
def spec_MeetSpans.B7 : List Nat := [0, 0, 3, 7, 15, 0, 63, 0, 0, 384, 896, 1920, 0, 8064, 16383, 0, 65535]
theorem spec_MeetSpans.tab7 : rtab .any (opsOf Tryz.f166 7) = spec_MeetSpans.T7 := by kernel_rfl
theorem spec_MeetSpans.bits7 : waitsOk spec_MeetSpans.T7.2 spec_MeetSpans.B7 = true := by kernel_rfl
theorem spec_MeetSpans.calls (k : Nat) (A0 : Option Addr) (c0 : Nat) (l0 : List (S146)) (a1 : Int) (a2 : Int) (r : List (S146)) (w : World) (hr0 : Kd.C k146 w A0 l0.length l0) (hc0 : l0.length ≤ c0) (h : spec_MeetSpans.f k l0 a1 a2 = some r) :
  Calls Tryz.prog 166 #[.slice A0 l0.length c0, .int .i64 a1, .int .i64 a2] w fun e w' => ∃ v0_ : Value, e = .returned (v0_) ∧ Kd.R k146 146 w' w.heap.size (fun _ => True) v0_ r ∧ Below w.heap.size w w' := by
 have hu146 := Tryz.underlying146
 have HR0 := aM hr0
 have HC0 := aM hc0
 clear hr0 hc0
 have HB := aM (Below.refl w.heap.size w)
 have H := h
 clear h
 unfold spec_MeetSpans.f at H
 obtain ⟨y320, hy_⟩ : ∃ y_ : List (S146), y_ = (([] : List (S146))) := ⟨_, rfl⟩
 replace H : ((spec_SpansOk.f k l0).bind fun t323 => (if t323 = true then (spec_MeetSpans.l0 k l0 a1 a2 y320 0) else (some y320))) = some r := yS
 have Ny320 := aM hy_
 clear hy_
 replace H := bN H
 obtain ⟨t323, A4, H⟩ := H
 by_cases c5 : t323 = true
 ·subst c5
  rw [if_pos rfl] at H
  have H' := aM H
  clear H
  go_enter Tryz.func166, Tryz.ntmps166
  go_wp2_with (first | ((with_reducible refine gate_dst (N := 10) rfl ?_); refine Kd.R_lit k146 _ 146 ?hg (N := 10) ?hd (xs := ([] : List (S146))) (inner := []) (ok := fun _ => True) (okp := fun _ => True) ?hr ?hp (fun _ hk => hk) trivial (Below.refl _ _) (Nat.le_refl _) (by simp) ?_; (case hd => rfl); (case hg => rfl); (case hr => first | (go_simp; done) | (go_simp; rfl)); (case hp => exact (Reps.none _ _)); intro v321 w6 ho7 hb hg_ hnew_; clear hg_ hnew_; (first | rw [← Ny320.out] at ho7 | (simp only [Int.reduceToNat] at ho7; rw [← Ny320.out] at ho7)); have HO322 := aM (Kd.R_lower ho7 (below_size bS)); replace HB := hB hb; clear hb ho7) | ((with_reducible refine gC 184 ?_); refine cM (some 12) Tryz.func184 (spec_SpansOk.calls k _ _ l0 _ _ (cC HR0 HB) HC0.out A4.out) ?_; rintro e w' ⟨rfl, ⟨nd, rfl⟩⟩; refine ⟨_, rfl, ?_⟩))
  go_loopg [7, 8] k (fun kq v7 v8 w' => ∃ (x7_1 : List (S146)) (x8_1 : Int), v8 = .int .i64 x8_1 ∧ Aside0 (spec_MeetSpans.l0 kq l0 a1 a2 x7_1 x8_1 = some r) ∧ Aside0 (kq ≤ k) ∧ Aside0 (Kd.R k146 146 w' w.heap.size (fun _ => True) v7 x7_1) ∧ Aside0 (Below w.heap.size w w'))
  case atStart => exact ⟨(y320), (0), fS, H', ⟨Nat.le_refl _⟩, ⟨rS HO322⟩, ⟨bS⟩⟩
  case round =>
   clear H'
   try clear c1
   try clear p2
   try clear c5
   obtain ⟨x7_1, x8_1, rfl, HA, HK1, HO_7, HB⟩ := hrel
   cases gk with
   | zero => exact absurd HA.out (by simp [spec_MeetSpans.l0])
   | succ k1 =>
    have H := HA.out
    clear HA
    simp only [spec_MeetSpans.l0] at H
    rcases iD H with ⟨c8b0, H⟩ | ⟨c8b0, H⟩
    ·obtain ⟨c9b0, H⟩ := iT H
     obtain ⟨ji10, hji10⟩ : ∃ j_ : Int, (mx ((rd_T146 l0 x8_1).f0) a1) = j_ := ⟨_, rfl⟩
     replace H : (if (ji10) < (mn ((rd_T146 l0 x8_1).f1) a2) then (if x7_1.length < 8796093022208 then (spec_MeetSpans.l0 k1 l0 a1 a2 (x7_1 ++ [(⟨ji10, mn ((rd_T146 l0 x8_1).f1) a2⟩ : S146)]) (wrap64 (x8_1 + 1))) else (none)) else (spec_MeetSpans.l0 k1 l0 a1 a2 x7_1 (wrap64 (x8_1 + 1)))) = some r := by first | (rw [hji10] at H; exact H) | (simp only [hji10] at H ⊢; exact H)
     have hji10_ : (if ((rd_T146 l0 x8_1).f0) < a1 then a1 else ((rd_T146 l0 x8_1).f0)) = ji10 := hji10
     obtain ⟨ji11, hji11⟩ : ∃ j_ : Int, (mn ((rd_T146 l0 x8_1).f1) a2) = j_ := ⟨_, rfl⟩
     replace H : (if (ji10) < (ji11) then (if x7_1.length < 8796093022208 then (spec_MeetSpans.l0 k1 l0 a1 a2 (x7_1 ++ [(⟨ji10, ji11⟩ : S146)]) (wrap64 (x8_1 + 1))) else (none)) else (spec_MeetSpans.l0 k1 l0 a1 a2 x7_1 (wrap64 (x8_1 + 1)))) = some r := by first | (rw [hji11] at H; exact H) | (simp only [hji11] at H ⊢; exact H)
     have hji11_ : (if a2 < ((rd_T146 l0 x8_1).f1) then a2 else ((rd_T146 l0 x8_1).f1)) = ji11 := hji11
     rcases iD H with ⟨c12b0, H⟩ | ⟨c12b0, H⟩
     ·obtain ⟨LMc13, H⟩ := iL H
      obtain ⟨y327, hy_⟩ : ∃ y_ : List (S146), y_ = (x7_1 ++ [(⟨ji10, ji11⟩ : S146)]) := ⟨_, rfl⟩
      replace H : (spec_MeetSpans.l0 k1 l0 a1 a2 y327 (wrap64 (x8_1 + 1))) = some r := yS
      have Ny327 := aM hy_
      clear hy_
      have H' := aM H
      clear H
      try go_wp2
      replace HO_7 := aM (Kd.R_drew HO_7.out)
      replace HB := aM (below_drew1 HB.out)
      have p324 : 0 ≤ (x8_1 : Int) := dA
      have q324 : x8_1 < (l0.length : Int) := dA
      obtain ⟨ad324, e324, hx324_0, hx324_1⟩ := at_T146 HR0.out x8_1 p324 q324
      have hw324_1 := hx324_1
      have hw324_0 := hx324_0
      cases e324
      replace hx324_0 := cB HB hx324_0
      replace hx324_1 := cB HB hx324_1
      replace p324 := eq_true p324
      replace q324 := eq_true q324
      have p325 : 0 ≤ (x8_1 : Int) := dA
      have q325 : x8_1 < (l0.length : Int) := dA
      obtain ⟨ad325, e325, hx325_0, hx325_1⟩ := at_T146 HR0.out x8_1 p325 q325
      have hw325_1 := hx325_1
      have hw325_0 := hx325_0
      obtain rfl : ad324 = ad325 := (by injection e325)
      replace hx325_0 := cB HB hx325_0
      replace hx325_1 := cB HB hx325_1
      replace p325 := eq_true p325
      replace q325 := eq_true q325
      refine start_ (n := 17) (S := fun w' => w'.cell? (ad324.add ((x8_1).toNat * 2)) = some (.int .i64 ((rd_T146 l0 x8_1).f0)) ∧ w'.cell? ⟨(ad324.add ((x8_1).toNat * 2)).block, (ad324.add ((x8_1).toNat * 2)).off + 1, none⟩ = some (.int .i64 ((rd_T146 l0 x8_1).f1)) ∧ w'.cell? (ad324.add ((x8_1).toNat * 2)) = some (.int .i64 ((rd_T146 l0 x8_1).f0)) ∧ w'.cell? ⟨(ad324.add ((x8_1).toNat * 2)).block, (ad324.add ((x8_1).toNat * 2)).off + 1, none⟩ = some (.int .i64 ((rd_T146 l0 x8_1).f1))) (ds := []) (mB 17 0) (by kernel_rfl) rfl rfl ⟨(cB HB hw324_0), (cB HB hw324_1), (cB HB hw325_0), (cB HB hw325_1)⟩ (fun hHeld => ?_); refine with_tabW spec_MeetSpans.tab7 spec_MeetSpans.bits7 (fun HT_ HW_ => ?_)
      generalize wr.drew = w14 at HO_7 HB hx324_0 hx324_1 hx325_0 hx325_1 hHeld ⊢
      refine pU 0 (some 21) (mB 17 1) ?_
      refine pU 1 (some 22) (mB 17 3) ?_
      refine pU 2 (some 23) (mB 17 7) ?_
      refine pU 3 (some 24) (mB 17 15) ?_
      refine pU 5 (some 26) (mB 17 47) ?_
      refine pU 7 (some 28) (mB 17 175) ?_
      refine pU 8 (some 29) (mB 17 431) ?_
      refine pU 9 (some 30) (mB 17 943) ?_
      refine pU 10 (some 31) (mB 17 1967) ?_
      refine pU 12 (some 33) (mB 17 6063) ?_
      refine tK 4 (some 25) (mB 17 6079) ?_
      refine pU 6 (some 27) (mB 17 6143) ?_
      refine tK 11 (some 32) (mB 17 8191) ?_
      refine pU 13 (some 34) (mB 17 16383) ?_
      refine pU 14 (some 35) (mB 17 32767) ?_
      refine one_ (i := 15) (N := some 9) (mB 17 65535) rfl rfl (one_of HT_.out (by kernel_rfl)) (by decide) (fun K hK => ?_)
      refine box_step ?hg (N := 9) ?hd (cs := #[.int .i64 0, .int .i64 0]) (t := 146) ?hr ?_; (case hd => rfl); (case hg => rfl); (case hr => first | (go_simp; done) | (go_simp; rfl))
      intro gb326 hg w15 hbox hb
      have BK326 := aM (hbox)
      have GW326 := gE hg
      have GE326 := gE hg
      replace HO_7 := aM (Kd.R_below (Kd.R_elderB (rS HO_7) gb326 (Nat.le_of_eq hg.symm)) hb)
      replace HB := hB hb
      clear hb hg
      refine hK.out _ _ ⟨(cB HB hw324_0), (cB HB hw324_1), (cB HB hw325_0), (cB HB hw325_1)⟩ (fun hHeld => ?_)
      clear hK K
      refine norm_ (a' := ?_) ?_ ?_
      rotate_left
      ·show Act.put _ (some 9) _ = _
       simp only [Act.put, List.setIfInBounds_toArray, List.set_cons_zero, List.set_cons_succ, i64_w, i32_w]
       rfl
      refine one_ (i := 16) (N := none) (mB 17 131071) rfl rfl (one_of HT_.out (by kernel_rfl)) (by decide) (fun K hK => ?_)
      have hs16 := cg0 BK326
      have hfs16 := blk_frozen BK326.out 0
      have hs17 := cg1 BK326
      have hfs17 := blk_frozen BK326.out 1
      refine skip_ (w1 := ?_) (by rfl) rfl ?_ ?_
      rotate_left
      ·go_simp
       rfl
      refine hK.out _ _ ⟨((cell_far (p := ⟨gb326, _, none⟩) (nA hw324_0 GW326) _).trans (((cell_far (p := ⟨gb326, _, none⟩) (nA hw324_0 GW326) _).trans (hHeld.1)))), ((cell_far (p := ⟨gb326, _, none⟩) (nA hw324_1 GW326) _).trans (((cell_far (p := ⟨gb326, _, none⟩) (nA hw324_1 GW326) _).trans (hHeld.2.1)))), ((cell_far (p := ⟨gb326, _, none⟩) (nA hw325_0 GW326) _).trans (((cell_far (p := ⟨gb326, _, none⟩) (nA hw325_0 GW326) _).trans (hHeld.2.2.1)))), ((cell_far (p := ⟨gb326, _, none⟩) (nA hw325_1 GW326) _).trans (((cell_far (p := ⟨gb326, _, none⟩) (nA hw325_1 GW326) _).trans (hHeld.2.2.2))))⟩ (fun hHeld => ?_)
      clear hK K
      refine done_ (done_of HT_.out (by kernel_rfl)) ?_
      have hz18 := cz2 BK326
      try go_wp2_with (first | ((with_reducible refine gate_builtin (b := .append) (xs := #[.tmp 41, .tmp 43]) rfl ?_); at_builtin; refine Kd.R_append k146 (w0 := w) w.heap.size rfl (.tmp 41) (.tmp 43) 143 146 (.agg #[(.int .i64 0), (.int .i64 0)]) 16 rfl Tryz.underlying143 info146 rfl (by decide) (by omega) u7 x7_1 (⟨ji10, ji11⟩ : S146) [.int .i64 ji10, .int .i64 ji11] (fun k_ => k_ ≠ gb326) (fun _ => False) rfl (by first | (go_simp; done) | (go_simp; rfl)) ?aP (fun _ hk => hk.elim) ?aF ?aO ?aB ?aS ?aL ?_; (case aP => exact k146_mkM _ _ _ (⟨ji10, ji11⟩ : S146)); (case aB => exact bS); (case aF => exact (fun k_ hk => Kd.freshB (g := gb326) (o := .cells #[.int .i64 ji10, .int .i64 ji11] 146 (0, 0)) kS k_ hk)); (case aO => exact (by exact rT (Kd.R_mono (Kd.R_far (p := ⟨gb326, 1, none⟩) (Kd.R_far (p := ⟨gb326, 0, none⟩) (Kd.R_mono HO_7.out (fun k_ hk => (⟨hk, hk.2⟩ : _ ∧ k_ ≠ gb326))) (fun _ hk => hk.2) (.int .i64 ji10)) (fun _ hk => hk.2) (.int .i64 ji11)) (fun _ hk => hk.1.2)))); (case aS => exact (below_size bS)); (case aL => have := LMc13.out; omega); intro v328 w19 ho hb hg hat; rw [← Ny327.out] at ho; have HO329 := aM (ho); replace BK326 := aM (blk_grown (g := gb326) (o := .cells #[.int .i64 ji10, .int .i64 ji11] 146 (0, 0)) kS hg (Kd.R_away HO_7.out (fun _ hk => hk.2))); replace HB := aM (hb); clear HO_7; clear ho hb hg hat))
      go_roundg k1
      case measure => have := HK1.out; omega
      case rel => exact ⟨(y327), (wrap64 (x8_1 + 1)), fS, H', ⟨by have := HK1.out; omega⟩, ⟨by exact rT (Kd.R_mono HO329.out (fun _ hk => trivial))⟩, ⟨bS⟩⟩
     ·have H' := aM H
      clear H
      try go_wp2
      replace HO_7 := aM (Kd.R_drew HO_7.out)
      replace HB := aM (below_drew1 HB.out)
      have p324 : 0 ≤ (x8_1 : Int) := dA
      have q324 : x8_1 < (l0.length : Int) := dA
      obtain ⟨ad324, e324, hx324_0, hx324_1⟩ := at_T146 HR0.out x8_1 p324 q324
      have hw324_1 := hx324_1
      have hw324_0 := hx324_0
      cases e324
      replace hx324_0 := cB HB hx324_0
      replace hx324_1 := cB HB hx324_1
      replace p324 := eq_true p324
      replace q324 := eq_true q324
      have p325 : 0 ≤ (x8_1 : Int) := dA
      have q325 : x8_1 < (l0.length : Int) := dA
      obtain ⟨ad325, e325, hx325_0, hx325_1⟩ := at_T146 HR0.out x8_1 p325 q325
      have hw325_1 := hx325_1
      have hw325_0 := hx325_0
      obtain rfl : ad324 = ad325 := (by injection e325)
      replace hx325_0 := cB HB hx325_0
      replace hx325_1 := cB HB hx325_1
      replace p325 := eq_true p325
      replace q325 := eq_true q325
      refine start_ (n := 17) (S := fun w' => w'.cell? (ad324.add ((x8_1).toNat * 2)) = some (.int .i64 ((rd_T146 l0 x8_1).f0)) ∧ w'.cell? ⟨(ad324.add ((x8_1).toNat * 2)).block, (ad324.add ((x8_1).toNat * 2)).off + 1, none⟩ = some (.int .i64 ((rd_T146 l0 x8_1).f1)) ∧ w'.cell? (ad324.add ((x8_1).toNat * 2)) = some (.int .i64 ((rd_T146 l0 x8_1).f0)) ∧ w'.cell? ⟨(ad324.add ((x8_1).toNat * 2)).block, (ad324.add ((x8_1).toNat * 2)).off + 1, none⟩ = some (.int .i64 ((rd_T146 l0 x8_1).f1))) (ds := []) (mB 17 0) (by kernel_rfl) rfl rfl ⟨(cB HB hw324_0), (cB HB hw324_1), (cB HB hw325_0), (cB HB hw325_1)⟩ (fun hHeld => ?_); refine with_tabW spec_MeetSpans.tab7 spec_MeetSpans.bits7 (fun HT_ HW_ => ?_)
      generalize wr.drew = w20 at HO_7 HB hx324_0 hx324_1 hx325_0 hx325_1 hHeld ⊢
      refine pU 0 (some 21) (mB 17 1) ?_
      refine pU 1 (some 22) (mB 17 3) ?_
      refine pU 2 (some 23) (mB 17 7) ?_
      refine pU 3 (some 24) (mB 17 15) ?_
      refine pU 5 (some 26) (mB 17 47) ?_
      refine pU 7 (some 28) (mB 17 175) ?_
      refine pU 8 (some 29) (mB 17 431) ?_
      refine pU 9 (some 30) (mB 17 943) ?_
      refine pU 10 (some 31) (mB 17 1967) ?_
      refine pU 12 (some 33) (mB 17 6063) ?_
      refine tK 4 (some 25) (mB 17 6079) ?_
      refine pU 6 (some 27) (mB 17 6143) ?_
      refine tK 11 (some 32) (mB 17 8191) ?_
      refine pU 13 (some 34) (mB 17 16383) ?_
      refine pU 14 (some 35) (mB 17 32767) ?_
      refine one_ (i := 15) (N := some 9) (mB 17 65535) rfl rfl (one_of HT_.out (by kernel_rfl)) (by decide) (fun K hK => ?_)
      refine box_step ?hg (N := 9) ?hd (cs := #[.int .i64 0, .int .i64 0]) (t := 146) ?hr ?_; (case hd => rfl); (case hg => rfl); (case hr => first | (go_simp; done) | (go_simp; rfl))
      intro gb326 hg w21 hbox hb
      have BK326 := aM (hbox)
      have GW326 := gE hg
      have GE326 := gE hg
      replace HO_7 := aM (Kd.R_below (Kd.R_elderB (rS HO_7) gb326 (Nat.le_of_eq hg.symm)) hb)
      replace HB := hB hb
      clear hb hg
      refine hK.out _ _ ⟨(cB HB hw324_0), (cB HB hw324_1), (cB HB hw325_0), (cB HB hw325_1)⟩ (fun hHeld => ?_)
      clear hK K
      refine norm_ (a' := ?_) ?_ ?_
      rotate_left
      ·show Act.put _ (some 9) _ = _
       simp only [Act.put, List.setIfInBounds_toArray, List.set_cons_zero, List.set_cons_succ, i64_w, i32_w]
       rfl
      refine one_ (i := 16) (N := none) (mB 17 131071) rfl rfl (one_of HT_.out (by kernel_rfl)) (by decide) (fun K hK => ?_)
      have hs22 := cg0 BK326
      have hfs22 := blk_frozen BK326.out 0
      have hs23 := cg1 BK326
      have hfs23 := blk_frozen BK326.out 1
      refine skip_ (w1 := ?_) (by rfl) rfl ?_ ?_
      rotate_left
      ·go_simp
       rfl
      refine hK.out _ _ ⟨((cell_far (p := ⟨gb326, _, none⟩) (nA hw324_0 GW326) _).trans (((cell_far (p := ⟨gb326, _, none⟩) (nA hw324_0 GW326) _).trans (hHeld.1)))), ((cell_far (p := ⟨gb326, _, none⟩) (nA hw324_1 GW326) _).trans (((cell_far (p := ⟨gb326, _, none⟩) (nA hw324_1 GW326) _).trans (hHeld.2.1)))), ((cell_far (p := ⟨gb326, _, none⟩) (nA hw325_0 GW326) _).trans (((cell_far (p := ⟨gb326, _, none⟩) (nA hw325_0 GW326) _).trans (hHeld.2.2.1)))), ((cell_far (p := ⟨gb326, _, none⟩) (nA hw325_1 GW326) _).trans (((cell_far (p := ⟨gb326, _, none⟩) (nA hw325_1 GW326) _).trans (hHeld.2.2.2))))⟩ (fun hHeld => ?_)
      clear hK K
      refine done_ (done_of HT_.out (by kernel_rfl)) ?_
      have hz24 := cz2 BK326
      try go_wp2
      go_roundg k1
      case measure => have := HK1.out; omega
      case rel => exact ⟨(x7_1), (wrap64 (x8_1 + 1)), fS, H', ⟨by have := HK1.out; omega⟩, ⟨by exact rT (Kd.R_mono (Kd.R_far (p := ⟨gb326, 1, none⟩) (Kd.R_far (p := ⟨gb326, 0, none⟩) (Kd.R_mono HO_7.out (fun k_ hk => (⟨hk, hk.2⟩ : _ ∧ k_ ≠ gb326))) (fun _ hk => hk.2) (.int .i64 ji10)) (fun _ hk => hk.2) (.int .i64 ji11)) (fun _ hk => trivial))⟩, ⟨bS⟩⟩
    ·obtain rfl := Option.some.inj H
     go_wp2
     go_ret
     exact ⟨_, eS, rS HO_7, bS⟩
 ·obtain rfl := Bool.eq_false_iff.mpr c5
  rw [if_neg nF] at H
  obtain rfl := Option.some.inj H
  go_enter Tryz.func166, Tryz.ntmps166
  go_wp2_with (first | ((with_reducible refine gate_dst (N := 10) rfl ?_); refine Kd.R_lit k146 _ 146 ?hg (N := 10) ?hd (xs := ([] : List (S146))) (inner := []) (ok := fun _ => True) (okp := fun _ => True) ?hr ?hp (fun _ hk => hk) trivial (Below.refl _ _) (Nat.le_refl _) (by simp) ?_; (case hd => rfl); (case hg => rfl); (case hr => first | (go_simp; done) | (go_simp; rfl)); (case hp => exact (Reps.none _ _)); intro v321 w25 ho26 hb hg_ hnew_; clear hg_ hnew_; (first | rw [← Ny320.out] at ho26 | (simp only [Int.reduceToNat] at ho26; rw [← Ny320.out] at ho26)); have HO322 := aM (Kd.R_lower ho26 (below_size bS)); replace HB := hB hb; clear hb ho26) | ((with_reducible refine gC 184 ?_); refine cM (some 12) Tryz.func184 (spec_SpansOk.calls k _ _ l0 _ _ (cC HR0 HB) HC0.out A4.out) ?_; rintro e w' ⟨rfl, ⟨nd, rfl⟩⟩; refine ⟨_, rfl, ?_⟩))
  go_ret
  exact ⟨_, eS, rS HO322, bS⟩

/-! ### spec_l08Crosses: function 192 -/
def spec_l08Crosses.f (a0_0 : Int) (a0_1 : Int) (a1_0 : Int) (a1_1 : Int) (a2 : Int) (a3 : Int) : Option (Bool) := if ((decide ((wrap64 (2 * a0_1)) > (wrap64 ((wrap64 (2 * a3)) + 1)))) == (decide ((wrap64 (2 * a1_1)) > (wrap64 ((wrap64 (2 * a3)) + 1))))) = true then (some false) else (if a0_1 > a1_1 then (some (decide ((wrap64 ((wrap64 ((wrap64 ((wrap64 ((wrap64 (2 * a2)) + 1)) - (wrap64 (2 * a1_0)))) * 2)) * (wrap64 (a0_1 - a1_1)))) < (wrap64 ((wrap64 ((wrap64 ((wrap64 ((wrap64 (2 * a3)) + 1)) - (wrap64 (2 * a1_1)))) * 2)) * (wrap64 (a0_0 - a1_0))))))) else (some (decide ((wrap64 ((wrap64 ((wrap64 ((wrap64 ((wrap64 (2 * a2)) + 1)) - (wrap64 (2 * a0_0)))) * 2)) * (wrap64 (a1_1 - a0_1)))) < (wrap64 ((wrap64 ((wrap64 ((wrap64 ((wrap64 (2 * a3)) + 1)) - (wrap64 (2 * a0_1)))) * 2)) * (wrap64 (a1_0 - a0_0))))))))
theorem spec_l08Crosses.lf0 {p : Prop} (h : p := by
 go_enter Tryz.func192, Tryz.ntmps192
 go_wp2_with (first | ((with_reducible refine gD 4 ?_); refine bxE #[.int .i64 a0_0, .int .i64 a0_1] 151 ?_; intro gb330 hg w12 BK330 hb; have GW330 := gE hg; have GE330 := gE hg; replace HB := hB hb; clear hb hg) | ((with_reducible refine gD 5 ?_); refine bxE #[.int .i64 a1_0, .int .i64 a1_1] 151 ?_; intro gb331 hg w13 BK331 hb; have GW331 := gE hg; have GE331 := gE hg; have NB330_331 := nL_ gb330 hg; have NB331_330 := nG_ gb330 hg; replace BK330 := kB_ gb330 hb; replace HB := hB hb; clear hb hg; have hnb14 := NB330_331.out; have hnc14 := NB331_330.out; have hz15 := cz2 BK330; have hz16 := cz2 BK331))
 go_ret
 exact ⟨eS, bS⟩) : p := h
theorem spec_l08Crosses.calls (a0_0 : Int) (a0_1 : Int) (a1_0 : Int) (a1_1 : Int) (a2 : Int) (a3 : Int) (r : Bool) (w : World) (h : spec_l08Crosses.f a0_0 a0_1 a1_0 a1_1 a2 a3 = some r) :
  Calls Tryz.prog 192 #[.agg #[.int .i64 a0_0, .int .i64 a0_1], .agg #[.int .i64 a1_0, .int .i64 a1_1], .int .i64 a2, .int .i64 a3] w fun e w' => e = .returned (.bool r) ∧ Below w.heap.size w w' := by
 have hu151 := Tryz.underlying151
 have HB := aM (Below.refl w.heap.size w)
 have H := h
 clear h
 unfold spec_l08Crosses.f at H
 by_cases c5 : ((decide ((wrap64 (2 * a0_1)) > (wrap64 ((wrap64 (2 * a3)) + 1)))) == (decide ((wrap64 (2 * a1_1)) > (wrap64 ((wrap64 (2 * a3)) + 1))))) = true
 ·rw [if_pos c5] at H
  have c5b0 : ((decide ((wrap64 (2 * a0_1)) > (wrap64 ((wrap64 (2 * a3)) + 1)))) == (decide ((wrap64 (2 * a1_1)) > (wrap64 ((wrap64 (2 * a3)) + 1))))) = true := c5
  (try (have c5b1 : decide ((decide ((wrap64 (2 * a0_1)) > (wrap64 ((wrap64 (2 * a3)) + 1)))) = (decide ((wrap64 (2 * a1_1)) > (wrap64 ((wrap64 (2 * a3)) + 1))))) = true := by simpa using c5))
  (try (have c5b2 : ((decide ((wrap64 (2 * a0_1)) > (wrap64 ((wrap64 (2 * a3)) + 1)))) == (decide ((wrap64 (2 * a1_1)) > (wrap64 ((wrap64 (2 * a3)) + 1))))) = true := by simpa using c5))
  clear c5
  obtain rfl := Option.some.inj H
  exact spec_l08Crosses.lf0
 ·rw [if_neg c5] at H
  have c5b0 : ((decide ((wrap64 (2 * a0_1)) > (wrap64 ((wrap64 (2 * a3)) + 1)))) == (decide ((wrap64 (2 * a1_1)) > (wrap64 ((wrap64 (2 * a3)) + 1))))) = false := by simpa using c5
  (try (have c5b1 : decide ((decide ((wrap64 (2 * a0_1)) > (wrap64 ((wrap64 (2 * a3)) + 1)))) = (decide ((wrap64 (2 * a1_1)) > (wrap64 ((wrap64 (2 * a3)) + 1))))) = false := by simpa using c5))
  (try (have c5b2 : ((decide ((wrap64 (2 * a0_1)) > (wrap64 ((wrap64 (2 * a3)) + 1)))) == (decide ((wrap64 (2 * a1_1)) > (wrap64 ((wrap64 (2 * a3)) + 1))))) = false := by simpa using c5))
  (try (have c5b3 : ¬ ((decide ((wrap64 (2 * a0_1)) > (wrap64 ((wrap64 (2 * a3)) + 1)))) = (decide ((wrap64 (2 * a1_1)) > (wrap64 ((wrap64 (2 * a3)) + 1))))) := by simpa using c5))
  clear c5
  by_cases c11 : a0_1 > a1_1
  ·rw [if_pos c11] at H
   have c11b0 : decide (a1_1 < a0_1) = true := decide_eq_true c11
   clear c11
   obtain rfl := Option.some.inj H
   exact spec_l08Crosses.lf0
  ·rw [if_neg c11] at H
   have c11b0 : decide (a1_1 < a0_1) = false := decide_eq_false c11
   clear c11
   obtain rfl := Option.some.inj H
   exact spec_l08Crosses.lf0

/-! ### spec_l08In: function 186 -/
def spec_l08In.l0 : Nat → List (S151) → Int → Int → Bool → Int → Option (Bool)
 | 0, _, _, _, _, _ => none
 | k + 1, x0, x1, x2, x7, x8 => if x8 < (x0.length : Int) then (if 0 ≤ x8 then (if (x0.length : Int) = 0 then (none) else (if 0 ≤ (Int.tmod (wrap64 (x8 + 1)) (x0.length : Int)) then (if (Int.tmod (wrap64 (x8 + 1)) (x0.length : Int)) < (x0.length : Int) then ((spec_l08Crosses.f ((rd_T151 x0 x8).f0) ((rd_T151 x0 x8).f1) ((rd_T151 x0 (Int.tmod (wrap64 (x8 + 1)) (x0.length : Int))).f0) ((rd_T151 x0 (Int.tmod (wrap64 (x8 + 1)) (x0.length : Int))).f1) x1 x2).bind fun t334 => (if t334 = true then (spec_l08In.l0 k x0 x1 x2 (!x7) (wrap64 (x8 + 1))) else (spec_l08In.l0 k x0 x1 x2 x7 (wrap64 (x8 + 1))))) else (none)) else (none))) else (none)) else (some x7)
def spec_l08In.f (k : Nat) (l0 : List (S151)) (a1 : Int) (a2 : Int) : Option (Bool) := spec_l08In.l0 k l0 a1 a2 false 0
def spec_l08In.T5 : Bool × List (List Nat × List Nat) := (true, [([], []), ([], []), ([0, 1], [0, 1]), ([2], [2]), ([], []), ([], []), ([5], [5]), ([], []), ([7], [7]), ([6, 8], [6, 8]), ([4, 9], [4, 9]), ([10], [10]), ([], []), ([], []), ([3, 11, 12, 13], [3, 11, 12, 13])])
def spec_l08In.B5 : List Nat := [0, 0, 3, 7, 0, 0, 32, 0, 128, 480, 1008, 2032, 0, 0, 16383]
theorem spec_l08In.tab5 : rtab .any (opsOf Tryz.f186 5) = spec_l08In.T5 := by kernel_rfl
theorem spec_l08In.bits5 : waitsOk spec_l08In.T5.2 spec_l08In.B5 = true := by kernel_rfl
theorem spec_l08In.calls (k : Nat) (A0 : Option Addr) (c0 : Nat) (l0 : List (S151)) (a1 : Int) (a2 : Int) (r : Bool) (w : World) (hr0 : Kd.C k151 w A0 l0.length l0) (hc0 : l0.length ≤ c0) (h : spec_l08In.f k l0 a1 a2 = some r) :
  Calls Tryz.prog 186 #[.slice A0 l0.length c0, .int .i64 a1, .int .i64 a2] w fun e w' => e = .returned (.bool r) ∧ Below w.heap.size w w' := by
 have hu151 := Tryz.underlying151
 have HR0 := aM hr0
 have HC0 := aM hc0
 clear hr0 hc0
 have HB := aM (Below.refl w.heap.size w)
 have H := h
 clear h
 unfold spec_l08In.f at H
 have H' := aM H
 clear H
 go_enter Tryz.func186, Tryz.ntmps186
 go_wp2
 go_loopg [7, 8] k (fun kq v7 v8 w' => ∃ (x7_1 : Bool) (x8_1 : Int), v7 = .bool x7_1 ∧ v8 = .int .i64 x8_1 ∧ Aside0 (spec_l08In.l0 kq l0 a1 a2 x7_1 x8_1 = some r) ∧ Aside0 (kq ≤ k) ∧ Aside0 (Below w.heap.size w w'))
 case atStart => exact ⟨(false), (0), fS, fS, H', ⟨Nat.le_refl _⟩, ⟨bS⟩⟩
 case round =>
  clear H'
  try clear c1
  try clear p2
  obtain ⟨x7_1, x8_1, rfl, rfl, HA, HK1, HB⟩ := hrel
  cases gk with
  | zero => exact absurd HA.out (by simp [spec_l08In.l0])
  | succ k1 =>
   have H := HA.out
   clear HA
   simp only [spec_l08In.l0] at H
   rcases iD H with ⟨c4b0, H⟩ | ⟨c4b0, H⟩
   ·obtain ⟨c5b0, H⟩ := iT H
    by_cases c6 : (l0.length : Int) = 0
    ·rw [if_pos c6] at H
     exact absurd H (by simp)
    ·rw [if_neg c6] at H
     have c6b0 : ((l0.length : Int) == 0) = false := beq_eq_false_iff_ne.mpr c6
     have c6b1 : ((l0.length : Int) != 0) = true := bne_iff_ne.mpr c6
     have c6b2 : ¬ (l0 = []) := fun h_ => c6 (by rw [h_]; rfl)
     obtain ⟨ji7, hji7⟩ : ∃ j_ : Int, (Int.tmod (wrap64 (x8_1 + 1)) (l0.length : Int)) = j_ := ⟨_, rfl⟩
     replace H : (if 0 ≤ (ji7) then (if (ji7) < (l0.length : Int) then ((spec_l08Crosses.f ((rd_T151 l0 x8_1).f0) ((rd_T151 l0 x8_1).f1) ((rd_T151 l0 (ji7)).f0) ((rd_T151 l0 (ji7)).f1) a1 a2).bind fun t334 => (if t334 = true then (spec_l08In.l0 k1 l0 a1 a2 (!x7_1) (wrap64 (x8_1 + 1))) else (spec_l08In.l0 k1 l0 a1 a2 x7_1 (wrap64 (x8_1 + 1))))) else (none)) else (none)) = some r := by first | (rw [hji7] at H; exact H) | (simp only [hji7] at H ⊢; exact H)
     obtain ⟨c8b0, H⟩ := iT H
     obtain ⟨c9b0, H⟩ := iT H
     replace H := bN H
     obtain ⟨t334, A10, H⟩ := H
     by_cases c11 : t334 = true
     ·subst c11
      rw [if_pos rfl] at H
      have H' := aM H
      clear H
      try go_wp2
      replace HB := aM (below_drew1 HB.out)
      have p332 : 0 ≤ (x8_1 : Int) := dA
      have q332 : x8_1 < (l0.length : Int) := dA
      obtain ⟨ad332, e332, hx332_0, hx332_1⟩ := at_T151 HR0.out x8_1 p332 q332
      have hw332_1 := hx332_1
      have hw332_0 := hx332_0
      cases e332
      replace hx332_0 := cB HB hx332_0
      replace hx332_1 := cB HB hx332_1
      replace p332 := eq_true p332
      replace q332 := eq_true q332
      have p333 : 0 ≤ ((ji7) : Int) := dA
      have q333 : (ji7) < (l0.length : Int) := dA
      obtain ⟨ad333, e333, hx333_0, hx333_1⟩ := at_T151 HR0.out (ji7) p333 q333
      have hw333_1 := hx333_1
      have hw333_0 := hx333_0
      obtain rfl : ad332 = ad333 := (by injection e333)
      replace hx333_0 := cB HB hx333_0
      replace hx333_1 := cB HB hx333_1
      replace p333 := eq_true p333
      replace q333 := eq_true q333
      refine start_ (n := 15) (S := fun w' => w'.cell? (ad332.add ((x8_1).toNat * 2)) = some (.int .i64 ((rd_T151 l0 x8_1).f0)) ∧ w'.cell? ⟨(ad332.add ((x8_1).toNat * 2)).block, (ad332.add ((x8_1).toNat * 2)).off + 1, none⟩ = some (.int .i64 ((rd_T151 l0 x8_1).f1)) ∧ w'.cell? (ad332.add (((ji7)).toNat * 2)) = some (.int .i64 ((rd_T151 l0 (ji7)).f0)) ∧ w'.cell? ⟨(ad332.add (((ji7)).toNat * 2)).block, (ad332.add (((ji7)).toNat * 2)).off + 1, none⟩ = some (.int .i64 ((rd_T151 l0 (ji7)).f1))) (ds := []) (mB 15 0) (by kernel_rfl) rfl rfl ⟨(cB HB hw332_0), (cB HB hw332_1), (cB HB hw333_0), (cB HB hw333_1)⟩ (fun hHeld => ?_); refine with_tabW spec_l08In.tab5 spec_l08In.bits5 (fun HT_ HW_ => ?_)
      generalize wr.drew = w12 at HB hx332_0 hx332_1 hx333_0 hx333_1 hHeld ⊢
      refine pU 0 (some 15) (mB 15 1) ?_
      refine pU 1 (some 16) (mB 15 3) ?_
      refine pU 2 (some 17) (mB 15 7) ?_
      refine pU 4 (some 19) (mB 15 23) ?_
      refine pU 5 (some 20) (mB 15 55) ?_
      refine pU 6 (some 21) (mB 15 119) ?_
      refine pU 7 (some 22) (mB 15 247) ?_
      refine pU 8 (some 23) (mB 15 503) ?_
      refine pU 9 (some 24) (mB 15 1015) ?_
      refine pU 10 (some 25) (mB 15 2039) ?_
      refine pU 12 (some 27) (mB 15 6135) ?_
      refine pU 13 (some 28) (mB 15 14327) ?_
      refine tK 3 (some 18) (mB 15 14335) ?_
      refine tK 11 (some 26) (mB 15 16383) ?_
      refine one_ (i := 14) (N := some 29) (mB 15 32767) rfl rfl (one_of HT_.out (by kernel_rfl)) (by decide) (fun K hK => ?_)
      refine goes_ Tryz.func192 (by kernel_rfl) rfl #[.agg #[.int .i64 ((rd_T151 l0 x8_1).f0), .int .i64 ((rd_T151 l0 x8_1).f1)], .agg #[.int .i64 ((rd_T151 l0 (ji7)).f0), .int .i64 ((rd_T151 l0 (ji7)).f1)], .int .i64 a1, .int .i64 a2] (by rfl) rfl rfl (by (try simp only [List.map_toArray, List.map_cons, List.map_nil]); first | done | (simp only [hji7]; rfl) | rfl | (simp only [List.length_drop, List.length_take]; rfl)) ?_
      with_reducible refine (spec_l08Crosses.calls ((rd_T151 l0 x8_1).f0) ((rd_T151 l0 x8_1).f1) ((rd_T151 l0 (ji7)).f0) ((rd_T151 l0 (ji7)).f1) a1 a2 _ _ A10.out).mono ?_
      rintro e w13 ⟨rfl, hb⟩
      refine ⟨_, rfl, ?_⟩
      replace HB := hB hb
      (try clear hb)
      (try clear hb2)
      (try clear hk)
      (try clear hi)
      refine hK.out _ _ ⟨(cB HB hw332_0), (cB HB hw332_1), (cB HB hw333_0), (cB HB hw333_1)⟩ (fun hHeld => ?_)
      clear hK K
      refine norm_ (a' := ?_) ?_ ?_
      rotate_left
      ·show Act.put _ (some 29) _ = _
       simp only [Act.put, List.setIfInBounds_toArray, List.set_cons_zero, List.set_cons_succ, i64_w, i32_w]
       rfl
      refine done_ (done_of HT_.out (by kernel_rfl)) ?_
      try go_wp2
      go_roundg k1
      case measure => have := HK1.out; omega
      case rel => exact ⟨(!x7_1), (wrap64 (x8_1 + 1)), fS, fS, H', ⟨by have := HK1.out; omega⟩, ⟨bS⟩⟩
     ·obtain rfl := Bool.eq_false_iff.mpr c11
      rw [if_neg nF] at H
      have H' := aM H
      clear H
      try go_wp2
      replace HB := aM (below_drew1 HB.out)
      have p332 : 0 ≤ (x8_1 : Int) := dA
      have q332 : x8_1 < (l0.length : Int) := dA
      obtain ⟨ad332, e332, hx332_0, hx332_1⟩ := at_T151 HR0.out x8_1 p332 q332
      have hw332_1 := hx332_1
      have hw332_0 := hx332_0
      cases e332
      replace hx332_0 := cB HB hx332_0
      replace hx332_1 := cB HB hx332_1
      replace p332 := eq_true p332
      replace q332 := eq_true q332
      have p333 : 0 ≤ ((ji7) : Int) := dA
      have q333 : (ji7) < (l0.length : Int) := dA
      obtain ⟨ad333, e333, hx333_0, hx333_1⟩ := at_T151 HR0.out (ji7) p333 q333
      have hw333_1 := hx333_1
      have hw333_0 := hx333_0
      obtain rfl : ad332 = ad333 := (by injection e333)
      replace hx333_0 := cB HB hx333_0
      replace hx333_1 := cB HB hx333_1
      replace p333 := eq_true p333
      replace q333 := eq_true q333
      refine start_ (n := 15) (S := fun w' => w'.cell? (ad332.add ((x8_1).toNat * 2)) = some (.int .i64 ((rd_T151 l0 x8_1).f0)) ∧ w'.cell? ⟨(ad332.add ((x8_1).toNat * 2)).block, (ad332.add ((x8_1).toNat * 2)).off + 1, none⟩ = some (.int .i64 ((rd_T151 l0 x8_1).f1)) ∧ w'.cell? (ad332.add (((ji7)).toNat * 2)) = some (.int .i64 ((rd_T151 l0 (ji7)).f0)) ∧ w'.cell? ⟨(ad332.add (((ji7)).toNat * 2)).block, (ad332.add (((ji7)).toNat * 2)).off + 1, none⟩ = some (.int .i64 ((rd_T151 l0 (ji7)).f1))) (ds := []) (mB 15 0) (by kernel_rfl) rfl rfl ⟨(cB HB hw332_0), (cB HB hw332_1), (cB HB hw333_0), (cB HB hw333_1)⟩ (fun hHeld => ?_); refine with_tabW spec_l08In.tab5 spec_l08In.bits5 (fun HT_ HW_ => ?_)
      generalize wr.drew = w14 at HB hx332_0 hx332_1 hx333_0 hx333_1 hHeld ⊢
      refine pU 0 (some 15) (mB 15 1) ?_
      refine pU 1 (some 16) (mB 15 3) ?_
      refine pU 2 (some 17) (mB 15 7) ?_
      refine pU 4 (some 19) (mB 15 23) ?_
      refine pU 5 (some 20) (mB 15 55) ?_
      refine pU 6 (some 21) (mB 15 119) ?_
      refine pU 7 (some 22) (mB 15 247) ?_
      refine pU 8 (some 23) (mB 15 503) ?_
      refine pU 9 (some 24) (mB 15 1015) ?_
      refine pU 10 (some 25) (mB 15 2039) ?_
      refine pU 12 (some 27) (mB 15 6135) ?_
      refine pU 13 (some 28) (mB 15 14327) ?_
      refine tK 3 (some 18) (mB 15 14335) ?_
      refine tK 11 (some 26) (mB 15 16383) ?_
      refine one_ (i := 14) (N := some 29) (mB 15 32767) rfl rfl (one_of HT_.out (by kernel_rfl)) (by decide) (fun K hK => ?_)
      refine goes_ Tryz.func192 (by kernel_rfl) rfl #[.agg #[.int .i64 ((rd_T151 l0 x8_1).f0), .int .i64 ((rd_T151 l0 x8_1).f1)], .agg #[.int .i64 ((rd_T151 l0 (ji7)).f0), .int .i64 ((rd_T151 l0 (ji7)).f1)], .int .i64 a1, .int .i64 a2] (by rfl) rfl rfl (by (try simp only [List.map_toArray, List.map_cons, List.map_nil]); first | done | (simp only [hji7]; rfl) | rfl | (simp only [List.length_drop, List.length_take]; rfl)) ?_
      with_reducible refine (spec_l08Crosses.calls ((rd_T151 l0 x8_1).f0) ((rd_T151 l0 x8_1).f1) ((rd_T151 l0 (ji7)).f0) ((rd_T151 l0 (ji7)).f1) a1 a2 _ _ A10.out).mono ?_
      rintro e w15 ⟨rfl, hb⟩
      refine ⟨_, rfl, ?_⟩
      replace HB := hB hb
      (try clear hb)
      (try clear hb2)
      (try clear hk)
      (try clear hi)
      refine hK.out _ _ ⟨(cB HB hw332_0), (cB HB hw332_1), (cB HB hw333_0), (cB HB hw333_1)⟩ (fun hHeld => ?_)
      clear hK K
      refine norm_ (a' := ?_) ?_ ?_
      rotate_left
      ·show Act.put _ (some 29) _ = _
       simp only [Act.put, List.setIfInBounds_toArray, List.set_cons_zero, List.set_cons_succ, i64_w, i32_w]
       rfl
      refine done_ (done_of HT_.out (by kernel_rfl)) ?_
      try go_wp2
      go_roundg k1
      case measure => have := HK1.out; omega
      case rel => exact ⟨(x7_1), (wrap64 (x8_1 + 1)), fS, fS, H', ⟨by have := HK1.out; omega⟩, ⟨bS⟩⟩
   ·obtain rfl := Option.some.inj H
    go_wp2
    go_ret
    exact ⟨eS, bS⟩

/-! ### spec_SpansAt: function 167 -/
mutual
def spec_SpansAt.j0 : Nat → List (S151) → Int → List (S146) → Bool → Option ((List (S146)))
 | 0, _, _, _, _ => none
 | k + 1, x0, x1, x5, x19 => if x19 = true then (some x5) else ((spec_BoxOf.f k x0).bind fun bt340 => (spec_SpansAt.l0 k x0 x1 x5 bt340.1 false bt340.1 bt340.1 bt340.2.1 bt340.2.2.1 bt340.2.2.2))
def spec_SpansAt.l0 : Nat → List (S151) → Int → List (S146) → Int → Bool → Int → Int → Int → Int → Int → Option ((List (S146)))
 | 0, _, _, _, _, _, _, _, _, _, _ => none
 | k + 1, x0, x1, x5, x7, x8, x9, x345000, x345001, x345002, x345003 => if x9 ≤ x345002 then ((spec_l08In.f k x0 x9 x1).bind fun t345 => (if t345 = true then (spec_SpansAt.j2 k x0 x1 x5 x7 x8 x9 t345 (!x8) x345000 x345001 x345002 x345003) else (spec_SpansAt.j2 k x0 x1 x5 x7 x8 x9 t345 false x345000 x345001 x345002 x345003))) else (some x5)
def spec_SpansAt.j2 : Nat → List (S151) → Int → List (S146) → Int → Bool → Int → Bool → Bool → Int → Int → Int → Int → Option ((List (S146)))
 | 0, _, _, _, _, _, _, _, _, _, _, _, _ => none
 | k + 1, x0, x1, x5, x7, x8, x9, x10, x41, x345000, x345001, x345002, x345003 => if x41 = true then (if x10 = true then (spec_SpansAt.l0 k x0 x1 x5 x9 x10 (wrap64 (x9 + 1)) x345000 x345001 x345002 x345003) else (if x8 = true then (if x5.length < 8796093022208 then (spec_SpansAt.l0 k x0 x1 (x5 ++ [(⟨x9, x9⟩ : S146)]) x9 x10 (wrap64 (x9 + 1)) x345000 x345001 x345002 x345003) else (none)) else (spec_SpansAt.l0 k x0 x1 x5 x9 x10 (wrap64 (x9 + 1)) x345000 x345001 x345002 x345003))) else (if x10 = true then (spec_SpansAt.l0 k x0 x1 x5 x7 x10 (wrap64 (x9 + 1)) x345000 x345001 x345002 x345003) else (if x8 = true then (if x5.length < 8796093022208 then (spec_SpansAt.l0 k x0 x1 (x5 ++ [(⟨x7, x9⟩ : S146)]) x7 x10 (wrap64 (x9 + 1)) x345000 x345001 x345002 x345003) else (none)) else (spec_SpansAt.l0 k x0 x1 x5 x7 x10 (wrap64 (x9 + 1)) x345000 x345001 x345002 x345003)))
end
def spec_SpansAt.f (k : Nat) (l0 : List (S151)) (a1 : Int) : Option ((List (S146))) := (some (([] : List (S146)) : List (S146))).bind fun y335 => ((spec_l07Points.f k l0).bind fun t338 => (if t338 = true then ((spec_l02In.f a1).bind fun t339 => (spec_SpansAt.j0 k l0 a1 y335 (!t339))) else (spec_SpansAt.j0 k l0 a1 y335 true)))
theorem spec_SpansAt.calls (k : Nat) (A0 : Option Addr) (c0 : Nat) (l0 : List (S151)) (a1 : Int) (r : List (S146)) (w : World) (hr0 : Kd.C k151 w A0 l0.length l0) (hc0 : l0.length ≤ c0) (h : spec_SpansAt.f k l0 a1 = some r) :
  Calls Tryz.prog 167 #[.slice A0 l0.length c0, .int .i64 a1] w fun e w' => ∃ v0_ : Value, e = .returned (v0_) ∧ Kd.R k146 146 w' w.heap.size (fun _ => True) v0_ r ∧ Below w.heap.size w w' := by
 have hu47 := Tryz.underlying47
 have hu146 := Tryz.underlying146
 have HR0 := aM hr0
 have HC0 := aM hc0
 clear hr0 hc0
 have HB := aM (Below.refl w.heap.size w)
 have H := h
 clear h
 unfold spec_SpansAt.f at H
 obtain ⟨y335, hy_⟩ : ∃ y_ : List (S146), y_ = (([] : List (S146))) := ⟨_, rfl⟩
 replace H : ((spec_l07Points.f k l0).bind fun t338 => (if t338 = true then ((spec_l02In.f a1).bind fun t339 => (spec_SpansAt.j0 k l0 a1 y335 (!t339))) else (spec_SpansAt.j0 k l0 a1 y335 true))) = some r := yS
 have Ny335 := aM hy_
 clear hy_
 have HC3 := aM H
 clear H
 go_enter Tryz.func167, Tryz.ntmps167
 go_upto_region 2 with (first | ((with_reducible refine gate_dst (N := 11) rfl ?_); refine Kd.R_lit k146 _ 146 ?hg (N := 11) ?hd (xs := ([] : List (S146))) (inner := []) (ok := fun _ => True) (okp := fun _ => True) ?hr ?hp (fun _ hk => hk) trivial (Below.refl _ _) (Nat.le_refl _) (by simp) ?_; (case hd => rfl); (case hg => rfl); (case hr => first | (go_simp; done) | (go_simp; rfl)); (case hp => exact (Reps.none _ _)); intro v336 w4 ho5 hb hg_ hnew_; clear hg_ hnew_; (first | rw [← Ny335.out] at ho5 | (simp only [Int.reduceToNat] at ho5; rw [← Ny335.out] at ho5)); have HO337 := aM (Kd.R_lower ho5 (below_size bS)); replace HB := hB hb; clear hb ho5))
 (try simp only [Act.put, List.setIfInBounds_toArray, List.set_cons_zero, List.set_cons_succ])
 go_cut [19] (fun v19 wc => ∃ (kq : Nat) (x19_2 : Bool), v19 = .bool x19_2 ∧ Aside0 (spec_SpansAt.j0 kq l0 a1 y335 x19_2 = some r) ∧ Aside0 (kq ≤ k) ∧ Aside0 (Kd.R k146 146 wc w.heap.size (fun _ => True) v336 y335) ∧ Aside0 (Below w.heap.size w wc))
 case first =>
  have H := HC3.out
  clear HC3
  replace H := bN H
  obtain ⟨t338, A6, H⟩ := H
  by_cases c7 : t338 = true
  ·subst c7
   rw [if_pos rfl] at H
   replace H := bN H
   obtain ⟨t339, A8, H⟩ := H
   have H' := aM H
   clear H
   go_wp2_with (first | ((with_reducible refine gC 170 ?_); refine cM (some 13) Tryz.func170 (spec_l07Points.calls k _ _ l0 _ _ (cC HR0 HB) HC0.out A6.out) ?_; rintro e w9 ⟨rfl, hb⟩; refine ⟨_, rfl, ?_⟩; replace HO337 := aM (Kd.R_below (rS HO337) hb); replace HB := hB hb; (try clear hb)) | (go_at_call 185; (with_reducible refine (spec_l02In.calls a1 t339 _ A8.out).mono ?_); rintro e w' ⟨rfl, ⟨nd, rfl⟩⟩))
   go_meet
   case rel => exact ⟨_, (!t339), fS, H', ⟨by first | omega | exact Nat.le_refl _⟩, ⟨rS HO337⟩, ⟨bS⟩⟩
  ·obtain rfl := Bool.eq_false_iff.mpr c7
   rw [if_neg nF] at H
   have H' := aM H
   clear H
   go_wp2_with (first | ((with_reducible refine gC 170 ?_); refine cM (some 13) Tryz.func170 (spec_l07Points.calls k _ _ l0 _ _ (cC HR0 HB) HC0.out A6.out) ?_; rintro e w10 ⟨rfl, hb⟩; refine ⟨_, rfl, ?_⟩; replace HO337 := aM (Kd.R_below (rS HO337) hb); replace HB := hB hb; (try clear hb)))
   go_meet
   case rel => exact ⟨_, (true), fS, H', ⟨by first | omega | exact Nat.le_refl _⟩, ⟨rS HO337⟩, ⟨bS⟩⟩
 case rest =>
  clear HC3
  try clear c1
  try clear p2
  try clear c7
  obtain ⟨kq, x19_2, rfl, HA, HJ2, HO_5, HB⟩ := hcut
  cases kq with
  | zero => exact absurd HA.out (by simp [spec_SpansAt.j0])
  | succ kj2 =>
   have H := HA.out
   clear HA
   simp only [spec_SpansAt.j0] at H
   by_cases c11 : x19_2 = true
   ·subst c11
    rw [if_pos rfl] at H
    obtain rfl := Option.some.inj H
    go_wp2
    go_ret
    exact ⟨_, eS, rS HO_5, bS⟩
   ·obtain rfl := Bool.eq_false_iff.mpr c11
    rw [if_neg nF] at H
    replace H := bN H
    obtain ⟨⟨t340, t341, t342, t343⟩, A12, H⟩ := H
    have H' := aM H
    clear H
    go_wp2_with (first | ((with_reducible refine gC 141 ?_); refine cM (some 22) Tryz.func141 (spec_BoxOf.calls kj2 _ _ l0 t340 t341 t342 t343 _ (cC HR0 HB) HC0.out A12.out) ?_; rintro e w13 ⟨rfl, hb⟩; refine ⟨_, rfl, ?_⟩; replace HO_5 := aM (Kd.R_below (rS HO_5) hb); replace HB := hB hb; (try clear hb)) | ((with_reducible refine gD 6 ?_); refine bxE #[.int .i64 0, .int .i64 0, .int .i64 0, .int .i64 0] 47 ?_; intro gb344 hg w14 BK344 hb; have GW344 := gE hg; have GE344 := gE hg; replace HO_5 := aM (Kd.R_below (rS HO_5) hb); replace HB := hB hb; clear hb hg; have hcz15_0 := cg0 BK344; have hcz15_1 := cg1 BK344; have hcz15_2 := cg2 BK344; have hcz15_3 := cg3 BK344; have hfz15_0 := blk_frozen BK344.out 0; have hfz15_1 := blk_frozen BK344.out 1; have hfz15_2 := blk_frozen BK344.out 2; have hfz15_3 := blk_frozen BK344.out 3))
    go_loopg [5, 7, 8, 9] kj2 (fun kq v5 v7 v8 v9 w' => ∃ (x5_2 : List (S146)) (x7_2 : Int) (x8_2 : Bool) (x9_2 : Int), v7 = .int .i64 x7_2 ∧ v8 = .bool x8_2 ∧ v9 = .int .i64 x9_2 ∧ Aside0 (spec_SpansAt.l0 kq l0 a1 x5_2 x7_2 x8_2 x9_2 t340 t341 t342 t343 = some r) ∧ Aside0 (kq ≤ kj2) ∧ Aside0 (Kd.R k146 146 w' w.heap.size (fun _ => True) v5 x5_2) ∧ Aside0 (w'.heap[gb344]? = some (.cells #[.int .i64 t340, .int .i64 t341, .int .i64 t342, .int .i64 t343] 47 (0, 0))) ∧ Aside0 (Below w.heap.size w w'))
    case atStart => exact ⟨(y335), (t340), (false), (t340), fS, fS, fS, H', ⟨Nat.le_refl _⟩, ⟨by exact rT (Kd.R_mono (Kd.R_far (p := ⟨gb344, 3, none⟩) (Kd.R_far (p := ⟨gb344, 2, none⟩) (Kd.R_far (p := ⟨gb344, 1, none⟩) (Kd.R_far (p := ⟨gb344, 0, none⟩) (Kd.R_types HO_5.out BK344.out (by decide)) (fun _ hk => hk.2) (.int .i64 t340)) (fun _ hk => hk.2) (.int .i64 t341)) (fun _ hk => hk.2) (.int .i64 t342)) (fun _ hk => hk.2) (.int .i64 t343)) (fun _ hk => trivial))⟩, ⟨kS⟩, ⟨bS⟩⟩
    case round =>
     clear H'
     try clear c1
     try clear p2
     try clear c7
     try clear c11
     try clear c14
     try clear p2
     obtain ⟨x5_2, x7_2, x8_2, x9_2, rfl, rfl, rfl, HA, HK2, HO_5, BK344, HB⟩ := hrel
     cases gk with
     | zero => exact absurd HA.out (by simp [spec_SpansAt.l0])
     | succ k2 =>
      have H := HA.out
      clear HA
      simp only [spec_SpansAt.l0] at H
      by_cases c16 : x9_2 ≤ t342
      ·rw [if_pos c16] at H
       have c16b0 : decide (x9_2 ≤ t342) = true := decide_eq_true c16
       clear c16
       replace H := bN H
       obtain ⟨t345, A17, H⟩ := H
       have HC18 := aM H
       clear H
       have hcz19_0 : wr.cell? ⟨gb344, 0, none⟩ = some (.int .i64 t340) := (blk_cell BK344.out 0).trans rfl
       have hcz19_1 : wr.cell? ⟨gb344, 1, none⟩ = some (.int .i64 t341) := (blk_cell BK344.out 1).trans rfl
       have hcz19_2 : wr.cell? ⟨gb344, 2, none⟩ = some (.int .i64 t342) := (blk_cell BK344.out 2).trans rfl
       have hcz19_3 : wr.cell? ⟨gb344, 3, none⟩ = some (.int .i64 t343) := (blk_cell BK344.out 3).trans rfl
       have hfz19_0 := blk_frozen BK344.out 0
       have hfz19_1 := blk_frozen BK344.out 1
       have hfz19_2 := blk_frozen BK344.out 2
       have hfz19_3 := blk_frozen BK344.out 3
       go_upto_region 11 with (first | ((with_reducible refine gC 186 ?_); refine cM (some 36) Tryz.func186 (spec_l08In.calls k2 _ _ l0 x9_2 a1 t345 _ (cC HR0 HB) HC0.out A17.out) ?_; rintro e w20 ⟨rfl, hb⟩; refine ⟨_, rfl, ?_⟩; replace HO_5 := aM (Kd.R_below (rS HO_5) hb); replace BK344 := kB_ gb344 hb; replace HB := hB hb; (try clear hb)))
       (try simp only [Act.put, List.setIfInBounds_toArray, List.set_cons_zero, List.set_cons_succ])
       go_cut [41] (fun v41 wc => ∃ (kq : Nat) (x41_17 : Bool), v41 = .bool x41_17 ∧ Aside0 (spec_SpansAt.j2 kq l0 a1 x5_2 x7_2 x8_2 x9_2 t345 x41_17 t340 t341 t342 t343 = some r) ∧ Aside0 (kq ≤ k2) ∧ Aside0 (Kd.R k146 146 wc w.heap.size (fun _ => True) u5 x5_2) ∧ Aside0 (wc.heap[gb344]? = some (.cells #[.int .i64 t340, .int .i64 t341, .int .i64 t342, .int .i64 t343] 47 (0, 0))) ∧ Aside0 (Below w.heap.size w wc))
       case first =>
        have H := HC18.out
        clear HC18
        by_cases c21 : t345 = true
        ·subst c21
         rw [if_pos rfl] at H
         have H' := aM H
         clear H
         go_wp2
         go_meet
         case rel => exact ⟨_, (!x8_2), fS, H', ⟨by have := HJ2.out; have := HK2.out; first | omega | exact Nat.le_refl _⟩, ⟨rS HO_5⟩, ⟨kS⟩, ⟨bS⟩⟩
        ·obtain rfl := Bool.eq_false_iff.mpr c21
         rw [if_neg nF] at H
         have H' := aM H
         clear H
         go_wp2
         go_meet
         case rel => exact ⟨_, (false), fS, H', ⟨by have := HJ2.out; have := HK2.out; first | omega | exact Nat.le_refl _⟩, ⟨rS HO_5⟩, ⟨kS⟩, ⟨bS⟩⟩
       case rest =>
        clear HC18
        try clear c1
        try clear c2
        try clear p2
        try clear c7
        try clear c11
        try clear c14
        try clear c16
        try clear c16b0
        try clear c17
        try clear c18
        try clear c21
        try clear p2
        obtain ⟨kq, x41_17, rfl, HA, HJ17, HO_5, BK344, HB⟩ := hcut
        cases kq with
        | zero => exact absurd HA.out (by simp [spec_SpansAt.j2])
        | succ kj17 =>
         have H := HA.out
         clear HA
         simp only [spec_SpansAt.j2] at H
         by_cases c22 : x41_17 = true
         ·subst c22
          rw [if_pos rfl] at H
          by_cases c23 : t345 = true
          ·subst c23
           rw [if_pos rfl] at H
           have H' := aM H
           clear H
           go_wp2
           go_roundg kj17
           case measure => have := HJ2.out; have := HK2.out; have := HJ17.out; omega
           case rel => exact ⟨(x5_2), (x9_2), (true), (wrap64 (x9_2 + 1)), fS, fS, fS, H', ⟨by have := HJ2.out; have := HK2.out; have := HJ17.out; omega⟩, ⟨rS HO_5⟩, ⟨kS⟩, ⟨bS⟩⟩
          ·obtain rfl := Bool.eq_false_iff.mpr c23
           rw [if_neg nF] at H
           by_cases c24 : x8_2 = true
           ·subst c24
            rw [if_pos rfl] at H
            obtain ⟨LMc25, H⟩ := iL H
            obtain ⟨y346, hy_⟩ : ∃ y_ : List (S146), y_ = (x5_2 ++ [(⟨x9_2, x9_2⟩ : S146)]) := ⟨_, rfl⟩
            replace H : (spec_SpansAt.l0 kj17 l0 a1 y346 x9_2 false (wrap64 (x9_2 + 1)) t340 t341 t342 t343) = some r := yS
            have Ny346 := aM hy_
            clear hy_
            have H' := aM H
            clear H
            go_wp2_with (first | ((with_reducible refine gate_builtin (b := .append) (xs := #[.tmp 48, .tmp 52]) rfl ?_); at_builtin; refine Kd.R_append k146 (w0 := w) w.heap.size rfl (.tmp 48) (.tmp 52) 143 146 (.agg #[(.int .i64 0), (.int .i64 0)]) 16 rfl Tryz.underlying143 info146 rfl (by decide) (by omega) u5 x5_2 (⟨x9_2, x9_2⟩ : S146) [.int .i64 x9_2, .int .i64 x9_2] (fun _ => True) (fun _ => False) rfl rfl ?aP (fun _ hk => hk.elim) ?aF ?aO ?aB ?aS ?aL ?_; (case aP => exact k146_mkM _ _ _ (⟨x9_2, x9_2⟩ : S146)); (case aB => exact bS); (case aF => exact (fun _ _ => trivial)); (case aO => exact (rS HO_5)); (case aS => exact (below_size bS)); (case aL => have := LMc25.out; omega); intro v347 w26 ho hb hg hat; rw [← Ny346.out] at ho; have HO348 := aM (ho); replace BK344 := aM (blk_grown (g := gb344) kS hg (Kd.R_ne HO_5.out BK344.out (by decide))); replace HB := aM (hb); clear HO_5; clear ho hb hg hat))
            go_roundg kj17
            case measure => have := HJ2.out; have := HK2.out; have := HJ17.out; omega
            case rel => exact ⟨(y346), (x9_2), (false), (wrap64 (x9_2 + 1)), fS, fS, fS, H', ⟨by have := HJ2.out; have := HK2.out; have := HJ17.out; omega⟩, ⟨rS HO348⟩, ⟨kS⟩, ⟨bS⟩⟩
           ·obtain rfl := Bool.eq_false_iff.mpr c24
            rw [if_neg nF] at H
            have H' := aM H
            clear H
            go_wp2
            go_roundg kj17
            case measure => have := HJ2.out; have := HK2.out; have := HJ17.out; omega
            case rel => exact ⟨(x5_2), (x9_2), (false), (wrap64 (x9_2 + 1)), fS, fS, fS, H', ⟨by have := HJ2.out; have := HK2.out; have := HJ17.out; omega⟩, ⟨rS HO_5⟩, ⟨kS⟩, ⟨bS⟩⟩
         ·obtain rfl := Bool.eq_false_iff.mpr c22
          rw [if_neg nF] at H
          by_cases c27 : t345 = true
          ·subst c27
           rw [if_pos rfl] at H
           have H' := aM H
           clear H
           go_wp2
           go_roundg kj17
           case measure => have := HJ2.out; have := HK2.out; have := HJ17.out; omega
           case rel => exact ⟨(x5_2), (x7_2), (true), (wrap64 (x9_2 + 1)), fS, fS, fS, H', ⟨by have := HJ2.out; have := HK2.out; have := HJ17.out; omega⟩, ⟨rS HO_5⟩, ⟨kS⟩, ⟨bS⟩⟩
          ·obtain rfl := Bool.eq_false_iff.mpr c27
           rw [if_neg nF] at H
           by_cases c28 : x8_2 = true
           ·subst c28
            rw [if_pos rfl] at H
            obtain ⟨LMc29, H⟩ := iL H
            obtain ⟨y349, hy_⟩ : ∃ y_ : List (S146), y_ = (x5_2 ++ [(⟨x7_2, x9_2⟩ : S146)]) := ⟨_, rfl⟩
            replace H : (spec_SpansAt.l0 kj17 l0 a1 y349 x7_2 false (wrap64 (x9_2 + 1)) t340 t341 t342 t343) = some r := yS
            have Ny349 := aM hy_
            clear hy_
            have H' := aM H
            clear H
            go_wp2_with (first | ((with_reducible refine gate_builtin (b := .append) (xs := #[.tmp 48, .tmp 52]) rfl ?_); at_builtin; refine Kd.R_append k146 (w0 := w) w.heap.size rfl (.tmp 48) (.tmp 52) 143 146 (.agg #[(.int .i64 0), (.int .i64 0)]) 16 rfl Tryz.underlying143 info146 rfl (by decide) (by omega) u5 x5_2 (⟨x7_2, x9_2⟩ : S146) [.int .i64 x7_2, .int .i64 x9_2] (fun _ => True) (fun _ => False) rfl rfl ?aP (fun _ hk => hk.elim) ?aF ?aO ?aB ?aS ?aL ?_; (case aP => exact k146_mkM _ _ _ (⟨x7_2, x9_2⟩ : S146)); (case aB => exact bS); (case aF => exact (fun _ _ => trivial)); (case aO => exact (rS HO_5)); (case aS => exact (below_size bS)); (case aL => have := LMc29.out; omega); intro v350 w30 ho hb hg hat; rw [← Ny349.out] at ho; have HO351 := aM (ho); replace BK344 := aM (blk_grown (g := gb344) kS hg (Kd.R_ne HO_5.out BK344.out (by decide))); replace HB := aM (hb); clear HO_5; clear ho hb hg hat))
            go_roundg kj17
            case measure => have := HJ2.out; have := HK2.out; have := HJ17.out; omega
            case rel => exact ⟨(y349), (x7_2), (false), (wrap64 (x9_2 + 1)), fS, fS, fS, H', ⟨by have := HJ2.out; have := HK2.out; have := HJ17.out; omega⟩, ⟨rS HO351⟩, ⟨kS⟩, ⟨bS⟩⟩
           ·obtain rfl := Bool.eq_false_iff.mpr c28
            rw [if_neg nF] at H
            have H' := aM H
            clear H
            go_wp2
            go_roundg kj17
            case measure => have := HJ2.out; have := HK2.out; have := HJ17.out; omega
            case rel => exact ⟨(x5_2), (x7_2), (false), (wrap64 (x9_2 + 1)), fS, fS, fS, H', ⟨by have := HJ2.out; have := HK2.out; have := HJ17.out; omega⟩, ⟨rS HO_5⟩, ⟨kS⟩, ⟨bS⟩⟩
      ·rw [if_neg c16] at H
       have c16b0 : decide (x9_2 ≤ t342) = false := decide_eq_false c16
       clear c16
       obtain rfl := Option.some.inj H
       have hz31 := cz4 BK344
       go_wp2
       go_ret
       exact ⟨_, eS, rS HO_5, bS⟩

/-! ### spec_ObjectRow: function 115 -/
def spec_ObjectRow.j0 : Nat → Int → Bool → List (S151) → Int → Int → Int → Int → Int → Int → Int → Int → Int → Option ((List (S146)))
 | 0, _, _, _, _, _, _, _, _, _, _, _, _ => none
 | k + 1, x1, x22, x353000, x353001, x353002, x353003, x353004, x353005, x358000, x358001, x358002, x358003 => if x22 = true then (some (([] : List (S146)))) else ((spec_SpansAt.f k x353000 x1).bind fun t362 => ((spec_MeetSpans.f k t362 x358000 x358002).bind fun t365 => (some t365)))
def spec_ObjectRow.f (k : Nat) (l0_0 : List (S151)) (a0_1 : Int) (a0_2 : Int) (a0_3 : Int) (a0_4 : Int) (a0_5 : Int) (a1 : Int) : Option ((List (S146))) := (spec_ObjectBox.f k l0_0 a0_1 a0_2 a0_3 a0_4 a0_5).bind fun bt353 => ((spec_CountDots.f bt353.1 bt353.2.1 bt353.2.2.1 bt353.2.2.2).bind fun t358 => (if t358 = 0 then (spec_ObjectRow.j0 k a1 true l0_0 a0_1 a0_2 a0_3 a0_4 a0_5 bt353.1 bt353.2.1 bt353.2.2.1 bt353.2.2.2) else (if a1 < bt353.2.1 then (spec_ObjectRow.j0 k a1 true l0_0 a0_1 a0_2 a0_3 a0_4 a0_5 bt353.1 bt353.2.1 bt353.2.2.1 bt353.2.2.2) else (spec_ObjectRow.j0 k a1 (decide (a1 ≥ bt353.2.2.2)) l0_0 a0_1 a0_2 a0_3 a0_4 a0_5 bt353.1 bt353.2.1 bt353.2.2.1 bt353.2.2.2))))
def spec_ObjectRow.T4 : Bool × List (List Nat × List Nat) := (true, [([], []), ([0], [0]), ([], []), ([1, 2], [1, 2]), ([], []), ([4], [4]), ([], []), ([6], [6]), ([3, 5, 7, 3], [3, 5, 7]), ([8, 8, 0, 1, 2, 3, 4, 5, 6, 7, 8], [8])])
def spec_ObjectRow.B4 : List Nat := [0, 1, 0, 7, 0, 16, 0, 64, 255, 511]
theorem spec_ObjectRow.tab4 : rtab .any (opsOf Tryz.f115 4) = spec_ObjectRow.T4 := by kernel_rfl
theorem spec_ObjectRow.bits4 : waitsOk spec_ObjectRow.T4.2 spec_ObjectRow.B4 = true := by kernel_rfl
theorem spec_ObjectRow.calls (k : Nat) (A0_0 : Option Addr) (c0_0 : Nat) (l0_0 : List (S151)) (a0_1 : Int) (a0_2 : Int) (a0_3 : Int) (a0_4 : Int) (a0_5 : Int) (a1 : Int) (r : List (S146)) (w : World) (hr0_0 : Kd.C k151 w A0_0 l0_0.length l0_0) (hc0_0 : l0_0.length ≤ c0_0) (h : spec_ObjectRow.f k l0_0 a0_1 a0_2 a0_3 a0_4 a0_5 a1 = some r) :
  Calls Tryz.prog 115 #[.agg #[.slice A0_0 l0_0.length c0_0, .int .i64 a0_1, .int .i64 a0_2, .int .i64 a0_3, .int .i64 a0_4, .int .i64 a0_5], .int .i64 a1] w fun e w' => ∃ v0_ : Value, e = .returned (v0_) ∧ Kd.R k146 146 w' w.heap.size (fun _ => True) v0_ r ∧ Below w.heap.size w w' := by
 have hu49 := Tryz.underlying49
 have hu47 := Tryz.underlying47
 have HR0_0 := aM hr0_0
 have HC0_0 := aM hc0_0
 clear hr0_0 hc0_0
 have HB := aM (Below.refl w.heap.size w)
 have H := h
 clear h
 unfold spec_ObjectRow.f at H
 replace H := bN H
 obtain ⟨⟨t353, t354, t355, t356⟩, A3, H⟩ := H
 have HC4 := aM H
 clear H
 go_enter Tryz.func115, Tryz.ntmps115
 go_upto_region 2 with (first | ((with_reducible refine gD 2 ?_); refine bxE #[.slice A0_0 l0_0.length c0_0, .int .i64 a0_1, .int .i64 a0_2, .int .i64 a0_3, .int .i64 a0_4, .int .i64 a0_5] 49 ?_; intro gb352 hg w5 BK352 hb; have GW352 := gE hg; have GE352 := gE hg; replace HB := hB hb; clear hb hg; have hcz6_0 := cg0 BK352; have hcz6_1 := cg1 BK352; have hcz6_2 := cg2 BK352; have hcz6_3 := cg3 BK352; have hcz6_4 := cg4 BK352; have hcz6_5 := cg5 BK352; have hfz6_0 := blk_frozen BK352.out 0; have hfz6_1 := blk_frozen BK352.out 1; have hfz6_2 := blk_frozen BK352.out 2; have hfz6_3 := blk_frozen BK352.out 3; have hfz6_4 := blk_frozen BK352.out 4; have hfz6_5 := blk_frozen BK352.out 5) | ((with_reducible refine gC 121 ?_); refine cM (some 7) Tryz.func121 (spec_ObjectBox.calls k _ _ l0_0 a0_1 a0_2 a0_3 a0_4 a0_5 t353 t354 t355 t356 _ (cC HR0_0 HB) HC0_0.out A3.out) ?_; rintro e w7 ⟨rfl, hb⟩; refine ⟨_, rfl, ?_⟩; replace BK352 := kB_ gb352 hb; replace HB := hB hb; (try clear hb)) | ((with_reducible refine gD 5 ?_); refine bxE #[.int .i64 0, .int .i64 0, .int .i64 0, .int .i64 0] 47 ?_; intro gb357 hg w8 BK357 hb; have GW357 := gE hg; have GE357 := gE hg; have NB352_357 := nL_ gb352 hg; have NB357_352 := nG_ gb352 hg; replace BK352 := kB_ gb352 hb; replace HB := hB hb; clear hb hg; have hnb9 := NB357_352.out; have hnc9 := NB352_357.out; have hcz10_0 := cg0 BK357; have hcz10_1 := cg1 BK357; have hcz10_2 := cg2 BK357; have hcz10_3 := cg3 BK357; have hfz10_0 := blk_frozen BK357.out 0; have hfz10_1 := blk_frozen BK357.out 1; have hfz10_2 := blk_frozen BK357.out 2; have hfz10_3 := blk_frozen BK357.out 3))
 (try simp only [Act.put, List.setIfInBounds_toArray, List.set_cons_zero, List.set_cons_succ])
 go_cut [22] (fun v22 wc => ∃ (kq : Nat) (x22_3 : Bool), v22 = .bool x22_3 ∧ Aside0 (spec_ObjectRow.j0 kq a1 x22_3 l0_0 a0_1 a0_2 a0_3 a0_4 a0_5 t353 t354 t355 t356 = some r) ∧ Aside0 (kq ≤ k) ∧ Aside0 (wc.heap[gb352]? = some (.cells #[(.slice A0_0 l0_0.length c0_0), .int .i64 a0_1, .int .i64 a0_2, .int .i64 a0_3, .int .i64 a0_4, .int .i64 a0_5] 49 (0, 0))) ∧ Aside0 (wc.heap[gb357]? = some (.cells #[.int .i64 t353, .int .i64 t354, .int .i64 t355, .int .i64 t356] 47 (0, 0))) ∧ Aside0 (Below w.heap.size w wc))
 case first =>
  have H := HC4.out
  clear HC4
  replace H := bN H
  obtain ⟨t358, A11, H⟩ := H
  by_cases c12 : t358 = 0
  ·rw [if_pos c12] at H
   have c12b0 : (t358 == 0) = true := beq_iff_eq.mpr c12
   have c12b1 : (t358 != 0) = false := bne_eq_false_iff_eq.mpr c12
   clear c12
   (first | rw [c12b0] | (simp only [i64_w, i32_w]; rw [c12b0]) | skip)
   have H' := aM H
   clear H
   have hnb13 := NB357_352.out
   have hnc13 := NB352_357.out
   have hcz14_0 := cg0 BK357
   have hcz14_1 := cg1 BK357
   have hcz14_2 := cg2 BK357
   have hcz14_3 := cg3 BK357
   have hfz14_0 := blk_frozen BK357.out 0
   have hfz14_1 := blk_frozen BK357.out 1
   have hfz14_2 := blk_frozen BK357.out 2
   have hfz14_3 := blk_frozen BK357.out 3
   go_wp2_with (first | ((with_reducible refine gC 122 ?_); refine cM (some 9) Tryz.func122 (spec_CountDots.calls t353 t354 t355 t356 t358 _ A11.out) ?_; rintro e w15 ⟨rfl, hb⟩; refine ⟨_, rfl, ?_⟩; replace BK352 := kB_ gb352 hb; replace BK357 := kO gb357 #[.int .i64 t353, .int .i64 t354, .int .i64 t355, .int .i64 t356] 47 hb; replace HB := hB hb; (try clear hb)))
   go_meet
   case rel => exact ⟨_, (true), fS, H', ⟨by first | omega | exact Nat.le_refl _⟩, ⟨kS⟩, ⟨kS⟩, ⟨bS⟩⟩
  ·rw [if_neg c12] at H
   have c12b0 : (t358 == 0) = false := beq_eq_false_iff_ne.mpr c12
   have c12b1 : (t358 != 0) = true := bne_iff_ne.mpr c12
   (first | rw [c12b0] | (simp only [i64_w, i32_w]; rw [c12b0]) | skip)
   rcases iD H with ⟨c16b0, H⟩ | ⟨c16b0, H⟩
   ·have H' := aM H
    clear H
    have hnb17 := NB357_352.out
    have hnc17 := NB352_357.out
    have hcz18_0 := cg0 BK357
    have hcz18_1 := cg1 BK357
    have hcz18_2 := cg2 BK357
    have hcz18_3 := cg3 BK357
    have hfz18_0 := blk_frozen BK357.out 0
    have hfz18_1 := blk_frozen BK357.out 1
    have hfz18_2 := blk_frozen BK357.out 2
    have hfz18_3 := blk_frozen BK357.out 3
    go_wp2_with (first | ((with_reducible refine gC 122 ?_); refine cM (some 9) Tryz.func122 (spec_CountDots.calls t353 t354 t355 t356 t358 _ A11.out) ?_; rintro e w19 ⟨rfl, hb⟩; refine ⟨_, rfl, ?_⟩; replace BK352 := kB_ gb352 hb; replace BK357 := kO gb357 #[.int .i64 t353, .int .i64 t354, .int .i64 t355, .int .i64 t356] 47 hb; replace HB := hB hb; (try clear hb); have hcz20_0 := cg0 BK357; have hcz20_1 := cg1 BK357; have hcz20_2 := cg2 BK357; have hcz20_3 := cg3 BK357; have hfz20_0 := blk_frozen BK357.out 0; have hfz20_1 := blk_frozen BK357.out 1; have hfz20_2 := blk_frozen BK357.out 2; have hfz20_3 := blk_frozen BK357.out 3))
    go_meet
    case rel => exact ⟨_, (true), fS, H', ⟨by first | omega | exact Nat.le_refl _⟩, ⟨kS⟩, ⟨kS⟩, ⟨bS⟩⟩
   ·have H' := aM H
    clear H
    have hnb21 := NB357_352.out
    have hnc21 := NB352_357.out
    have hcz22_0 := cg0 BK357
    have hcz22_1 := cg1 BK357
    have hcz22_2 := cg2 BK357
    have hcz22_3 := cg3 BK357
    have hfz22_0 := blk_frozen BK357.out 0
    have hfz22_1 := blk_frozen BK357.out 1
    have hfz22_2 := blk_frozen BK357.out 2
    have hfz22_3 := blk_frozen BK357.out 3
    go_wp2_with (first | ((with_reducible refine gC 122 ?_); refine cM (some 9) Tryz.func122 (spec_CountDots.calls t353 t354 t355 t356 t358 _ A11.out) ?_; rintro e w23 ⟨rfl, hb⟩; refine ⟨_, rfl, ?_⟩; replace BK352 := kB_ gb352 hb; replace BK357 := kO gb357 #[.int .i64 t353, .int .i64 t354, .int .i64 t355, .int .i64 t356] 47 hb; replace HB := hB hb; (try clear hb); have hcz24_0 := cg0 BK357; have hcz24_1 := cg1 BK357; have hcz24_2 := cg2 BK357; have hcz24_3 := cg3 BK357; have hfz24_0 := blk_frozen BK357.out 0; have hfz24_1 := blk_frozen BK357.out 1; have hfz24_2 := blk_frozen BK357.out 2; have hfz24_3 := blk_frozen BK357.out 3))
    go_meet
    case rel => exact ⟨_, (decide (a1 ≥ t356)), fS, H', ⟨by first | omega | exact Nat.le_refl _⟩, ⟨kS⟩, ⟨kS⟩, ⟨bS⟩⟩
 case rest =>
  clear HC4
  try clear c1
  try clear c2
  try clear p2
  try clear c9
  try clear c11
  try clear c12
  try clear c12b0
  try clear c12b1
  try clear c13
  try clear c16
  try clear c16b0
  try clear c17
  try clear c21
  obtain ⟨kq, x22_3, rfl, HA, HJ3, BK352, BK357, HB⟩ := hcut
  cases kq with
  | zero => exact absurd HA.out (by simp [spec_ObjectRow.j0])
  | succ kj3 =>
   have H := HA.out
   clear HA
   simp only [spec_ObjectRow.j0] at H
   by_cases c25 : x22_3 = true
   ·subst c25
    rw [if_pos rfl] at H
    obtain ⟨y359, hy_⟩ : ∃ y_ : List (S146), y_ = (([] : List (S146))) := ⟨_, rfl⟩
    replace H : (some y359) = some r := yS
    have Ny359 := aM hy_
    clear hy_
    obtain rfl := Option.some.inj H
    go_wp2_with (first | ((with_reducible refine gate_dst (N := 23) rfl ?_); refine Kd.R_lit k146 _ 146 ?hg (N := 23) ?hd (xs := ([] : List (S146))) (inner := []) (ok := fun _ => True) (okp := fun _ => True) ?hr ?hp (fun _ hk => hk) trivial (Below.refl _ _) (Nat.le_refl _) (by simp) ?_; (case hd => rfl); (case hg => rfl); (case hr => first | (go_simp; done) | (go_simp; rfl)); (case hp => exact (Reps.none _ _)); intro v360 w26 ho27 hb hg_ hnew_; clear hg_ hnew_; (first | rw [← Ny359.out] at ho27 | (simp only [Int.reduceToNat] at ho27; rw [← Ny359.out] at ho27)); have HO361 := aM (Kd.R_lower ho27 (below_size bS)); replace BK352 := kB_ gb352 hb; replace BK357 := kB_ gb357 hb; replace HB := hB hb; clear hb ho27))
    go_ret
    exact ⟨_, eS, rS HO361, bS⟩
   ·obtain rfl := Bool.eq_false_iff.mpr c25
    rw [if_neg nF] at H
    replace H := bN H
    obtain ⟨t362, A28, H⟩ := H
    replace H := bN H
    obtain ⟨t365, A29, H⟩ := H
    obtain rfl := Option.some.inj H
    try go_wp2
    replace BK352 := aM (blk_drew BK352.out)
    replace BK357 := aM (blk_drew BK357.out)
    replace HB := aM (below_drew1 HB.out)
    refine start_ (n := 10) (S := fun w' => w'.cell? ⟨gb352, 0, none⟩ = some (.slice A0_0 l0_0.length c0_0) ∧ w'.cell? ⟨gb352, 1, none⟩ = some (.int .i64 a0_1) ∧ w'.cell? ⟨gb352, 2, none⟩ = some (.int .i64 a0_2) ∧ w'.cell? ⟨gb352, 3, none⟩ = some (.int .i64 a0_3) ∧ w'.cell? ⟨gb352, 4, none⟩ = some (.int .i64 a0_4) ∧ w'.cell? ⟨gb352, 5, none⟩ = some (.int .i64 a0_5) ∧ w'.cell? ⟨gb357, 0, none⟩ = some (.int .i64 t353) ∧ w'.cell? ⟨gb357, 1, none⟩ = some (.int .i64 t354) ∧ w'.cell? ⟨gb357, 2, none⟩ = some (.int .i64 t355) ∧ w'.cell? ⟨gb357, 3, none⟩ = some (.int .i64 t356)) (ds := []) (mB 10 0) (by kernel_rfl) rfl rfl (cx6 BK352 (cy4 BK357)) (fun hHeld => ?_); refine with_tabW spec_ObjectRow.tab4 spec_ObjectRow.bits4 (fun HT_ HW_ => ?_)
    generalize wc.drew = w30 at BK352 BK357 HB hHeld ⊢
    refine pU 0 (some 24) (mB 10 1) ?_
    refine pU 2 (some 26) (mB 10 5) ?_
    refine pU 4 (some 28) (mB 10 21) ?_
    refine pU 6 (some 30) (mB 10 85) ?_
    refine tK 1 (some 25) (mB 10 87) ?_
    refine tK 5 (some 29) (mB 10 119) ?_
    refine tK 7 (some 31) (mB 10 247) ?_
    refine one_ (i := 3) (N := some 27) (mB 10 255) rfl rfl (one_of HT_.out (by kernel_rfl)) (by decide) (fun K hK => ?_)
    refine goes_ Tryz.func167 (by kernel_rfl) rfl #[.slice A0_0 l0_0.length c0_0, .int .i64 a1] (by rfl) rfl rfl mA ?_
    with_reducible refine (spec_SpansAt.calls kj3 _ _ l0_0 a1 t362 _ ?side1 ?side2 A28.out).mono ?_
    (case side1 => exact cS (Kd.C_below HR0_0.out HB.out))
    (case side2 => exact HC0_0.out)
    rintro e w31 ⟨v363, rfl, ho0, hb⟩
    refine ⟨_, rfl, ?_⟩
    have HO364 := aM (Kd.R_lower ho0 (below_size bS))
    replace BK352 := kB_ gb352 hb
    replace BK357 := kB_ gb357 hb
    replace HB := hB hb
    (try clear hb)
    (try clear hb2)
    (try clear hk)
    (try clear hi)
    (try clear ho0)
    obtain ⟨Ao32, co32, eo32⟩ := Kd.R_slice HO364.out
    (first | subst eo32 | obtain ⟨rfl, rfl⟩ := slE eo32)
    refine hK.out _ _ (cx6 BK352 (cy4 BK357)) (fun hHeld => ?_)
    clear hK K
    refine norm_ (a' := ?_) ?_ ?_
    rotate_left
    ·show Act.put _ (some 27) _ = _
     simp only [Act.put, List.setIfInBounds_toArray, List.set_cons_zero, List.set_cons_succ, i64_w, i32_w]
     rfl
    refine one_ (i := 8) (N := some 32) (mB 10 511) rfl rfl (one_of HT_.out (by kernel_rfl)) (by decide) (fun K hK => ?_)
    refine goes_ Tryz.func166 (by kernel_rfl) rfl #[.slice Ao32 t362.length co32, .int .i64 t353, .int .i64 t355] (by rfl) rfl rfl mA ?_
    with_reducible refine (spec_MeetSpans.calls kj3 _ _ t362 t353 t355 t365 _ ?side1 ?side2 A29.out).mono ?_
    (case side1 => exact cS (Kd.R_reads' HO364.out).2.2)
    (case side2 => exact (Kd.R_reads' HO364.out).2.1)
    rintro e w33 ⟨v366, rfl, ho0, hb⟩
    refine ⟨_, rfl, ?_⟩
    have HO367 := aM (Kd.R_lower (Kd.R_new' ho0 (Kd.R_lt (rS HO364))) (below_size bS))
    replace HO364 := aM (Kd.R_elder' (rS HO364) (Kd.R_base ho0) hb)
    replace BK352 := kB_ gb352 hb
    replace BK357 := kB_ gb357 hb
    replace HB := hB hb
    (try clear hb)
    (try clear hb2)
    (try clear hk)
    (try clear hi)
    (try clear ho0)
    refine hK.out _ _ (cx6 BK352 (cy4 BK357)) (fun hHeld => ?_)
    clear hK K
    refine norm_ (a' := ?_) ?_ ?_
    rotate_left
    ·show Act.put _ (some 32) _ = _
     simp only [Act.put, List.setIfInBounds_toArray, List.set_cons_zero, List.set_cons_succ, i64_w, i32_w]
     rfl
    refine pU 9 (some 4) (mB 10 1023) ?_
    refine done_ (done_of HT_.out (by kernel_rfl)) ?_
    try go_wp2
    go_ret
    exact ⟨_, eS, by exact rT (Kd.R_mono HO367.out (fun _ hk => trivial)), bS⟩

/-! ### spec_PaintObject: function 53 -/
mutual
def spec_PaintObject.j0 : Nat → Int → List (List Int) → Bool → List (S151) → Int → Int → Int → Int → Int → Option ((List (List Int)) × Bool)
 | 0, _, _, _, _, _, _, _, _, _ => none
 | k + 1, x1, x8, x27, x369000, x369001, x369002, x369003, x369004, x369005 => if x27 = true then (some (x8, false)) else (spec_PaintObject.l0 k x1 x8 0 x369000 x369001 x369002 x369003 x369004 x369005)
def spec_PaintObject.l0 : Nat → Int → List (List Int) → Int → List (S151) → Int → Int → Int → Int → Int → Option ((List (List Int)) × Bool)
 | 0, _, _, _, _, _, _, _, _, _ => none
 | k + 1, x1, x8, x9, x369000, x369001, x369002, x369003, x369004, x369005 => if x9 < (x8.length : Int) then ((spec_ObjectRow.f k x369000 x369001 x369002 x369003 x369004 x369005 (wrap64 (x1 + x9))).bind fun t375 => (spec_PaintObject.l1 k x1 x8 x9 t375 0 x369000 x369001 x369002 x369003 x369004 x369005)) else (some (x8, true))
def spec_PaintObject.l1 : Nat → Int → List (List Int) → Int → List (S146) → Int → List (S151) → Int → Int → Int → Int → Int → Option ((List (List Int)) × Bool)
 | 0, _, _, _, _, _, _, _, _, _, _, _ => none
 | k + 1, x1, x8, x9, x10, x11, x369000, x369001, x369002, x369003, x369004, x369005 => if x11 < (x10.length : Int) then (if 0 ≤ x11 then (spec_PaintObject.l2 k x1 x8 x9 x10 x11 ((rd_T146 x10 x11).f0) x369000 x369001 x369002 x369003 x369004 x369005) else (none)) else (spec_PaintObject.l0 k x1 x8 (wrap64 (x9 + 1)) x369000 x369001 x369002 x369003 x369004 x369005)
def spec_PaintObject.l2 : Nat → Int → List (List Int) → Int → List (S146) → Int → Int → List (S151) → Int → Int → Int → Int → Int → Option ((List (List Int)) × Bool)
 | 0, _, _, _, _, _, _, _, _, _, _, _, _ => none
 | k + 1, x1, x8, x9, x10, x11, x12, x369000, x369001, x369002, x369003, x369004, x369005 => if 0 ≤ x11 then (if x11 < (x10.length : Int) then (if x12 < ((rd_T146 x10 x11).f1) then (if 0 ≤ x9 then (if x9 < (x8.length : Int) then (if 0 ≤ x12 then (if x12 < ((rd_L1 x8 x9).length : Int) then (spec_PaintObject.l2 k x1 (x8.set (x9 : Int).toNat ((rd_L1 x8 x9).set (x12 : Int).toNat x369001)) x9 x10 x11 (wrap64 (x12 + 1)) x369000 x369001 x369002 x369003 x369004 x369005) else (none)) else (none)) else (none)) else (none)) else (spec_PaintObject.l1 k x1 x8 x9 x10 (wrap64 (x11 + 1)) x369000 x369001 x369002 x369003 x369004 x369005)) else (none)) else (none)
end
def spec_PaintObject.f (k : Nat) (l0 : List (List Int)) (a1 : Int) (l2_0 : List (S151)) (a2_1 : Int) (a2_2 : Int) (a2_3 : Int) (a2_4 : Int) (a2_5 : Int) : Option ((List (List Int)) × Bool) := (spec_l11Copy.f k l0).bind fun t369 => ((spec_RowsOk.f k l0).bind fun t372 => (if t372 = true then ((spec_ObjectOk.f k l2_0 a2_1 a2_2 a2_3 a2_4 a2_5).bind fun t373 => (if t373 = true then ((spec_l01In.f a1 0 32).bind fun t374 => (spec_PaintObject.j0 k a1 t369 (!t374) l2_0 a2_1 a2_2 a2_3 a2_4 a2_5)) else (spec_PaintObject.j0 k a1 t369 true l2_0 a2_1 a2_2 a2_3 a2_4 a2_5))) else (spec_PaintObject.j0 k a1 t369 true l2_0 a2_1 a2_2 a2_3 a2_4 a2_5)))
def spec_PaintObject.T14 : Bool × List (List Nat × List Nat) := (true, [([], []), ([], []), ([0, 1], [0, 1]), ([2], [2]), ([], []), ([], []), ([5], [5]), ([3, 4, 0, 1, 2, 3, 4, 5, 6], [3, 4]), ([7, 6, 0, 1, 2, 3, 4, 5, 6], [6, 7])])
def spec_PaintObject.B14 : List Nat := [0, 0, 3, 7, 0, 0, 32, 127, 255]
theorem spec_PaintObject.tab14 : rtab .any (opsOf Tryz.f53 14) = spec_PaintObject.T14 := by kernel_rfl
theorem spec_PaintObject.bits14 : waitsOk spec_PaintObject.T14.2 spec_PaintObject.B14 = true := by kernel_rfl
theorem spec_PaintObject.calls (k : Nat) (A0 : Option Addr) (c0 : Nat) (l0 : List (List Int)) (a1 : Int) (A2_0 : Option Addr) (c2_0 : Nat) (l2_0 : List (S151)) (a2_1 : Int) (a2_2 : Int) (a2_3 : Int) (a2_4 : Int) (a2_5 : Int) (r1 : List (List Int)) (r2 : Bool) (w : World) (hr0 : Kd.C (Kd.slice 3 (Kd.int .i64)) w A0 l0.length l0) (hc0 : l0.length ≤ c0) (hr2_0 : Kd.C k151 w A2_0 l2_0.length l2_0) (hc2_0 : l2_0.length ≤ c2_0) (h : spec_PaintObject.f k l0 a1 l2_0 a2_1 a2_2 a2_3 a2_4 a2_5 = some (r1, r2)) :
  Calls Tryz.prog 53 #[.slice A0 l0.length c0, .int .i64 a1, .agg #[.slice A2_0 l2_0.length c2_0, .int .i64 a2_1, .int .i64 a2_2, .int .i64 a2_3, .int .i64 a2_4, .int .i64 a2_5]] w fun e w' => ∃ v0_ : Value, e = .returned (.tuple #[v0_, .bool r2]) ∧ Kd.S (Kd.slice 3 (Kd.int .i64)) 54 w' w.heap.size (fun _ => True) v0_ r1 ∧ Below w.heap.size w w' := by
 have hu49 := Tryz.underlying49
 have HR0 := aM hr0
 have HC0 := aM hc0
 clear hr0 hc0
 have HR2_0 := aM hr2_0
 have HC2_0 := aM hc2_0
 clear hr2_0 hc2_0
 have HB := aM (Below.refl w.heap.size w)
 have H := h
 clear h
 unfold spec_PaintObject.f at H
 replace H := bN H
 obtain ⟨t369, A4, H⟩ := H
 have HC5 := aM H
 clear H
 go_enter Tryz.func53, Tryz.ntmps53
 go_upto_region 2 with (first | ((with_reducible refine gD 5 ?_); refine bxE #[.slice A2_0 l2_0.length c2_0, .int .i64 a2_1, .int .i64 a2_2, .int .i64 a2_3, .int .i64 a2_4, .int .i64 a2_5] 49 ?_; intro gb368 hg w6 BK368 hb; have GW368 := gE hg; have GE368 := gE hg; replace HB := hB hb; clear hb hg) | ((with_reducible refine gC 113 ?_); refine cM (some 14) Tryz.func113 (spec_l11Copy.calls k _ _ l0 t369 _ (cC HR0 HB) HC0.out A4.out) ?_; rintro e w7 ⟨v370, rfl, ho0, hb⟩; refine ⟨_, rfl, ?_⟩; have HO371 := aM (Kd.S_lower ho0 (below_size bS)); replace BK368 := kB_ gb368 hb; replace HB := hB hb; (try clear hb ho0)))
 (try simp only [Act.put, List.setIfInBounds_toArray, List.set_cons_zero, List.set_cons_succ])
 go_cut [27] (fun v27 wc => ∃ (kq : Nat) (x27_4 : Bool), v27 = .bool x27_4 ∧ Aside0 (spec_PaintObject.j0 kq a1 t369 x27_4 l2_0 a2_1 a2_2 a2_3 a2_4 a2_5 = some (r1, r2)) ∧ Aside0 (kq ≤ k) ∧ Aside0 (Kd.S (Kd.slice 3 (Kd.int .i64)) 54 wc w.heap.size (fun _ => True) v370 t369) ∧ Aside0 (wc.heap[gb368]? = some (.cells #[(.slice A2_0 l2_0.length c2_0), .int .i64 a2_1, .int .i64 a2_2, .int .i64 a2_3, .int .i64 a2_4, .int .i64 a2_5] 49 (0, 0))) ∧ Aside0 (Below w.heap.size w wc))
 case first =>
  have H := HC5.out
  clear HC5
  replace H := bN H
  obtain ⟨t372, A8, H⟩ := H
  by_cases c9 : t372 = true
  ·subst c9
   rw [if_pos rfl] at H
   replace H := bN H
   obtain ⟨t373, A10, H⟩ := H
   by_cases c11 : t373 = true
   ·subst c11
    rw [if_pos rfl] at H
    replace H := bN H
    obtain ⟨t374, A12, H⟩ := H
    have H' := aM H
    clear H
    go_wp2_with (first | ((with_reducible refine gC 108 ?_); refine cM (some 16) Tryz.func108 (spec_RowsOk.calls k _ _ l0 _ _ (cC HR0 HB) HC0.out A8.out) ?_; rintro e w' ⟨rfl, ⟨nd, rfl⟩⟩; refine ⟨_, rfl, ?_⟩; have hcz13_0 := cg0 BK368; have hcz13_1 := cg1 BK368; have hcz13_2 := cg2 BK368; have hcz13_3 := cg3 BK368; have hcz13_4 := cg4 BK368; have hcz13_5 := cg5 BK368; have hfz13_0 := blk_frozen BK368.out 0; have hfz13_1 := blk_frozen BK368.out 1; have hfz13_2 := blk_frozen BK368.out 2; have hfz13_3 := blk_frozen BK368.out 3; have hfz13_4 := blk_frozen BK368.out 4; have hfz13_5 := blk_frozen BK368.out 5) | (go_at_call 58; (with_reducible refine (spec_ObjectOk.calls k _ _ l2_0 a2_1 a2_2 a2_3 a2_4 a2_5 _ _ (cS (Kd.C_below HR2_0.out bS)) HC2_0.out A10.out).mono ?_); rintro e w14 ⟨rfl, hb⟩; replace HO371 := sB HO371 hb; replace BK368 := kB_ gb368 hb; replace HB := hB hb; (try clear hb)) | (go_at_call 114; (with_reducible refine (spec_l01In.calls a1 0 32 t374 _ A12.out).mono ?_); rintro e w' ⟨rfl, ⟨nd, rfl⟩⟩))
    go_meet
    case rel => exact ⟨_, (!t374), fS, H', ⟨by first | omega | exact Nat.le_refl _⟩, ⟨sS HO371⟩, ⟨kS⟩, ⟨bS⟩⟩
   ·obtain rfl := Bool.eq_false_iff.mpr c11
    rw [if_neg nF] at H
    have H' := aM H
    clear H
    go_wp2_with (first | ((with_reducible refine gC 108 ?_); refine cM (some 16) Tryz.func108 (spec_RowsOk.calls k _ _ l0 _ _ (cC HR0 HB) HC0.out A8.out) ?_; rintro e w' ⟨rfl, ⟨nd, rfl⟩⟩; refine ⟨_, rfl, ?_⟩; have hcz15_0 := cg0 BK368; have hcz15_1 := cg1 BK368; have hcz15_2 := cg2 BK368; have hcz15_3 := cg3 BK368; have hcz15_4 := cg4 BK368; have hcz15_5 := cg5 BK368; have hfz15_0 := blk_frozen BK368.out 0; have hfz15_1 := blk_frozen BK368.out 1; have hfz15_2 := blk_frozen BK368.out 2; have hfz15_3 := blk_frozen BK368.out 3; have hfz15_4 := blk_frozen BK368.out 4; have hfz15_5 := blk_frozen BK368.out 5) | (go_at_call 58; (with_reducible refine (spec_ObjectOk.calls k _ _ l2_0 a2_1 a2_2 a2_3 a2_4 a2_5 _ _ (cS (Kd.C_below HR2_0.out bS)) HC2_0.out A10.out).mono ?_); rintro e w16 ⟨rfl, hb⟩; replace HO371 := sB HO371 hb; replace BK368 := kB_ gb368 hb; replace HB := hB hb; (try clear hb)))
    go_meet
    case rel => exact ⟨_, (true), fS, H', ⟨by first | omega | exact Nat.le_refl _⟩, ⟨sS HO371⟩, ⟨kS⟩, ⟨bS⟩⟩
  ·obtain rfl := Bool.eq_false_iff.mpr c9
   rw [if_neg nF] at H
   have H' := aM H
   clear H
   go_wp2_with (first | ((with_reducible refine gC 108 ?_); refine cM (some 16) Tryz.func108 (spec_RowsOk.calls k _ _ l0 _ _ (cC HR0 HB) HC0.out A8.out) ?_; rintro e w' ⟨rfl, ⟨nd, rfl⟩⟩; refine ⟨_, rfl, ?_⟩))
   go_meet
   case rel => exact ⟨_, (true), fS, H', ⟨by first | omega | exact Nat.le_refl _⟩, ⟨sS HO371⟩, ⟨kS⟩, ⟨bS⟩⟩
 case rest =>
  clear HC5
  try clear c1
  try clear c2
  try clear p2
  try clear c5
  try clear c9
  try clear c10
  try clear c11
  obtain ⟨kq, x27_4, rfl, HA, HJ4, HO_8, BK368, HB⟩ := hcut
  cases kq with
  | zero => exact absurd HA.out (by simp [spec_PaintObject.j0])
  | succ kj4 =>
   have H := HA.out
   clear HA
   simp only [spec_PaintObject.j0] at H
   by_cases c17 : x27_4 = true
   ·subst c17
    rw [if_pos rfl] at H
    obtain ⟨rfl, rfl⟩ := sI2 H
    go_wp2
    go_ret2
    exact ⟨_, eS, sS HO_8, bS⟩
   ·obtain rfl := Bool.eq_false_iff.mpr c17
    rw [if_neg nF] at H
    have H' := aM H
    clear H
    go_wp2
    go_loopg [9] kj4 (fun kq v9 w' => ∃ (x8_2 : List (List Int)) (x9_2 : Int), v9 = .int .i64 x9_2 ∧ Aside0 (spec_PaintObject.l0 kq a1 x8_2 x9_2 l2_0 a2_1 a2_2 a2_3 a2_4 a2_5 = some (r1, r2)) ∧ Aside0 (kq ≤ kj4) ∧ Aside0 (Kd.S (Kd.slice 3 (Kd.int .i64)) 54 w' w.heap.size (fun _ => True) v370 x8_2) ∧ Aside0 (w'.heap[gb368]? = some (.cells #[(.slice A2_0 l2_0.length c2_0), .int .i64 a2_1, .int .i64 a2_2, .int .i64 a2_3, .int .i64 a2_4, .int .i64 a2_5] 49 (0, 0))) ∧ Aside0 (Below w.heap.size w w'))
    case atStart => exact ⟨(t369), (0), fS, H', ⟨Nat.le_refl _⟩, ⟨sS HO_8⟩, ⟨kS⟩, ⟨bS⟩⟩
    case round =>
     clear H'
     try clear c1
     try clear c2
     try clear p2
     try clear c5
     try clear c9
     try clear c10
     try clear c11
     try clear c17
     try clear p2
     obtain ⟨x8_2, x9_2, rfl, HA, HK2, HO_8, BK368, HB⟩ := hrel
     cases gk with
     | zero => exact absurd HA.out (by simp [spec_PaintObject.l0])
     | succ k2 =>
      have H := HA.out
      clear HA
      simp only [spec_PaintObject.l0] at H
      by_cases c18 : x9_2 < (x8_2.length : Int)
      ·rw [if_pos c18] at H
       have c18b0 : decide (x9_2 < (x8_2.length : Int)) = true := decide_eq_true c18
       clear c18
       replace H := bN H
       obtain ⟨t375, A19, H⟩ := H
       have H' := aM H
       clear H
       obtain ⟨Ao20, co20, eo20⟩ := Kd.S_slice HO_8.out
       subst eo20
       have hcz21_0 : wr.cell? ⟨gb368, 0, none⟩ = some (.slice A2_0 l2_0.length c2_0) := (blk_cell BK368.out 0).trans rfl
       have hcz21_1 : wr.cell? ⟨gb368, 1, none⟩ = some (.int .i64 a2_1) := (blk_cell BK368.out 1).trans rfl
       have hcz21_2 : wr.cell? ⟨gb368, 2, none⟩ = some (.int .i64 a2_2) := (blk_cell BK368.out 2).trans rfl
       have hcz21_3 : wr.cell? ⟨gb368, 3, none⟩ = some (.int .i64 a2_3) := (blk_cell BK368.out 3).trans rfl
       have hcz21_4 : wr.cell? ⟨gb368, 4, none⟩ = some (.int .i64 a2_4) := (blk_cell BK368.out 4).trans rfl
       have hcz21_5 : wr.cell? ⟨gb368, 5, none⟩ = some (.int .i64 a2_5) := (blk_cell BK368.out 5).trans rfl
       have hfz21_0 := blk_frozen BK368.out 0
       have hfz21_1 := blk_frozen BK368.out 1
       have hfz21_2 := blk_frozen BK368.out 2
       have hfz21_3 := blk_frozen BK368.out 3
       have hfz21_4 := blk_frozen BK368.out 4
       have hfz21_5 := blk_frozen BK368.out 5
       go_wp2_with (first | ((with_reducible refine gC 115 ?_); refine cM (some 39) Tryz.func115 (spec_ObjectRow.calls k2 _ _ l2_0 a2_1 a2_2 a2_3 a2_4 a2_5 (wrap64 (a1 + x9_2)) t375 _ (cC HR2_0 HB) HC2_0.out A19.out) ?_; rintro e w22 ⟨v376, rfl, ho0, hb⟩; refine ⟨_, rfl, ?_⟩; have HO377 := aM (Kd.R_lower ho0 (below_size bS)); replace HO_8 := sB HO_8 hb; replace BK368 := kB_ gb368 hb; replace HB := hB hb; (try clear hb ho0)))
       go_loopg [11] k2 (fun kq v11 w' => ∃ (x8_3 : List (List Int)) (x11_3 : Int), v11 = .int .i64 x11_3 ∧ Aside0 (spec_PaintObject.l1 kq a1 x8_3 x9_2 t375 x11_3 l2_0 a2_1 a2_2 a2_3 a2_4 a2_5 = some (r1, r2)) ∧ Aside0 (kq ≤ k2) ∧ Aside0 (Kd.S (Kd.slice 3 (Kd.int .i64)) 54 w' w.heap.size (fun _ => True) (.slice Ao20 x8_2.length co20) x8_3) ∧ Aside0 (Kd.R k146 146 w' w.heap.size (fun _ => True) v376 t375) ∧ Aside0 (w'.heap[gb368]? = some (.cells #[(.slice A2_0 l2_0.length c2_0), .int .i64 a2_1, .int .i64 a2_2, .int .i64 a2_3, .int .i64 a2_4, .int .i64 a2_5] 49 (0, 0))) ∧ Aside0 (Below w.heap.size w w'))
       case atStart => exact ⟨(x8_2), (0), fS, H', ⟨Nat.le_refl _⟩, ⟨sS HO_8⟩, ⟨rS HO377⟩, ⟨kS⟩, ⟨bS⟩⟩
       case round =>
        clear H'
        try clear c1
        try clear c2
        try clear p2
        try clear c5
        try clear p6
        try clear c9
        try clear c10
        try clear c11
        try clear c17
        try clear c18
        try clear c18b0
        try clear p2
        obtain ⟨x8_3, x11_3, rfl, HA, HK3, HO_8, HO_10, BK368, HB⟩ := hrel
        have hl8_3 := (Kd.S_reads' HO_8.out).1
        rw [hl8_3] at HO_8
        (try simp only [hl8_3])
        (try simp only [hl8_3] at BK368)
        (try simp only [hl8_3] at HO_10)
        cases gk with
        | zero => exact absurd HA.out (by simp [spec_PaintObject.l1])
        | succ k3 =>
         have H := HA.out
         clear HA
         simp only [spec_PaintObject.l1] at H
         by_cases c23 : x11_3 < (t375.length : Int)
         ·rw [if_pos c23] at H
          have c23b0 : decide (x11_3 < (t375.length : Int)) = true := decide_eq_true c23
          (try (have c23b0_ := c23b0; simp only [hl8_3] at c23b0_))
          clear c23
          by_cases c24 : 0 ≤ x11_3
          ·rw [if_pos c24] at H
           have c24b0 : decide (0 ≤ x11_3) = true := decide_eq_true c24
           clear c24
           have H' := aM H
           clear H
           obtain ⟨Ao25, co25, eo25⟩ := Kd.R_slice HO_10.out
           subst eo25
           have p378 : 0 ≤ (x11_3 : Int) := dA
           have q378 : x11_3 < (t375.length : Int) := dA
           obtain ⟨ad378, e378, hx378_0, hx378_1⟩ := at_T146 (Kd.R_reads' HO_10.out).2.2 x11_3 p378 q378
           cases e378
           replace p378 := eq_true p378
           replace q378 := eq_true q378
           go_wp2
           go_loopg [12] k3 (fun kq v12 w' => ∃ (x8_4 : List (List Int)) (x12_4 : Int), v12 = .int .i64 x12_4 ∧ Aside0 (spec_PaintObject.l2 kq a1 x8_4 x9_2 t375 x11_3 x12_4 l2_0 a2_1 a2_2 a2_3 a2_4 a2_5 = some (r1, r2)) ∧ Aside0 (kq ≤ k3) ∧ Aside0 (Kd.S (Kd.slice 3 (Kd.int .i64)) 54 w' w.heap.size (fun _ => True) (.slice Ao20 x8_3.length co20) x8_4) ∧ Aside0 (Kd.R k146 146 w' w.heap.size (fun _ => True) (.slice (some ad378) t375.length co25) t375) ∧ Aside0 (w'.heap[gb368]? = some (.cells #[(.slice A2_0 l2_0.length c2_0), .int .i64 a2_1, .int .i64 a2_2, .int .i64 a2_3, .int .i64 a2_4, .int .i64 a2_5] 49 (0, 0))) ∧ Aside0 (Below w.heap.size w w'))
           case atStart => exact ⟨(x8_3), ((rd_T146 t375 x11_3).f0), fS, H', ⟨Nat.le_refl _⟩, ⟨by (try simp only [hl8_3]); (with_reducible repeat (first | apply Kd.S_alloc | apply Kd.S_drewN | apply Kd.S_drew)); exact HO_8.out⟩, ⟨by (try simp only [hl8_3]); (with_reducible repeat (first | apply Kd.R_alloc | apply Kd.R_drewN | apply Kd.R_drew)); exact HO_10.out⟩, ⟨by (try simp only [hl8_3]); (with_reducible repeat (first | refine blk_drewN ?_ _ | refine blk_drew ?_ | refine blk_alloc ?_ _)); exact BK368.out⟩, ⟨bS⟩⟩
           case round =>
            clear H'
            try clear c1
            try clear c2
            try clear p2
            try clear p3
            try clear q3
            try clear hx3
            try clear c5
            try clear p6
            try clear c9
            try clear c10
            try clear c11
            try clear c17
            try clear c18
            try clear c18b0
            try clear c23
            try clear c23b0
            try clear c24
            try clear c24b0
            try clear hx378_0
            try clear hx378_1
            try clear p2
            try clear p378
            try clear p6
            try clear q378
            obtain ⟨x8_4, x12_4, rfl, HA, HK4, HO_8, HO_10, BK368, HB⟩ := hrel
            have hl8_4 := (Kd.S_reads' HO_8.out).1
            rw [hl8_4] at HO_8
            (try simp only [hl8_4])
            (try simp only [hl8_4] at BK368)
            (try simp only [hl8_4] at HO_10)
            cases gk with
            | zero => exact absurd HA.out (by simp [spec_PaintObject.l2])
            | succ k4 =>
             have H := HA.out
             clear HA
             simp only [spec_PaintObject.l2] at H
             obtain ⟨c26b0, H⟩ := iT H
             by_cases c27 : x11_3 < (t375.length : Int)
             ·rw [if_pos c27] at H
              have c27b0 : decide (x11_3 < (t375.length : Int)) = true := decide_eq_true c27
              (try (have c27b0_ := c27b0; simp only [hl8_3, hl8_4] at c27b0_))
              clear c27
              rcases iD H with ⟨c28b0, H⟩ | ⟨c28b0, H⟩
              ·obtain ⟨c29b0, H⟩ := iT H
               by_cases c30 : x9_2 < (x8_4.length : Int)
               ·rw [if_pos c30] at H
                have c30b0 : decide (x9_2 < (x8_4.length : Int)) = true := decide_eq_true c30
                (try (have c30b0_ := c30b0; simp only [hl8_3, hl8_4] at c30b0_))
                clear c30
                obtain ⟨c31b0, H⟩ := iT H
                by_cases c32 : x12_4 < ((rd_L1 x8_4 x9_2).length : Int)
                ·rw [if_pos c32] at H
                 have c32b0 : decide (x12_4 < ((rd_L1 x8_4 x9_2).length : Int)) = true := decide_eq_true c32
                 (try (have c32b0_ := c32b0; simp only [hl8_3, hl8_4] at c32b0_))
                 clear c32
                 obtain ⟨y381, hy_⟩ : ∃ y_ : List Int, y_ = ((rd_L1 x8_4 x9_2).set (x12_4 : Int).toNat a2_1) := ⟨_, rfl⟩
                 replace H : (spec_PaintObject.l2 k4 a1 (x8_4.set (x9_2 : Int).toNat y381) x9_2 t375 x11_3 (wrap64 (x12_4 + 1)) l2_0 a2_1 a2_2 a2_3 a2_4 a2_5) = some (r1, r2) := yS
                 have Ny381 := aM hy_
                 clear hy_
                 obtain ⟨y383, hy_⟩ : ∃ y_ : List (List Int), y_ = (x8_4.set (x9_2 : Int).toNat y381) := ⟨_, rfl⟩
                 replace H : (spec_PaintObject.l2 k4 a1 y383 x9_2 t375 x11_3 (wrap64 (x12_4 + 1)) l2_0 a2_1 a2_2 a2_3 a2_4 a2_5) = some (r1, r2) := yS
                 have Ny383 := aM hy_
                 clear hy_
                 have H' := aM H
                 clear H
                 have p379 : 0 ≤ (x11_3 : Int) := dA
                 have q379 : x11_3 < (t375.length : Int) := dA
                 obtain ⟨ad379, e379, hx379_0, hx379_1⟩ := at_T146 (Kd.R_reads' HO_10.out).2.2 x11_3 p379 q379
                 obtain rfl : ad378 = ad379 := (by injection e379)
                 replace p379 := eq_true p379
                 replace q379 := eq_true q379
                 try go_wp2
                 replace HO_8 := aM (Kd.S_drew HO_8.out)
                 replace HO_10 := aM (Kd.R_drew HO_10.out)
                 replace BK368 := aM (blk_drew BK368.out)
                 replace HB := aM (below_drew1 HB.out)
                 have p380 : 0 ≤ (x9_2 : Int) := dA
                 have q380 : x9_2 < (x8_4.length : Int) := dA
                 obtain ⟨ad380, A380_0, c380_0, e380, hx380_0, hl380_0, hi380_0⟩ := at_L1 (Kd.S_reads' HO_8.out).2.2 x9_2 p380 q380
                 cases e380
                 obtain ⟨ce380, hce380, hMe380, hcc380⟩ := Kd.S_get HO_8.out [] x9_2 p380 (by first | exact q380 | exact dA | (have e_ := (Kd.S_reads' HO_8.out).1; omega))
                 obtain ⟨ve380_0, rfl, ge380_0⟩ := hMe380
                 have hv380_0 := hcc380 0 _ rfl
                 rw [Nat.add_zero, show ((Kd.slice 3 (Kd.int .i64))).sz = 1 from rfl, Nat.mul_one] at hv380_0
                 replace hv380_0 := Option.some.inj (hv380_0.symm.trans hx380_0)
                 rw [hv380_0] at ge380_0
                 have HL380_0 := aM (show Kd.R (Kd.int .i64) 3 _ _ _ _ (rd_L1 x8_4 x9_2) from ge380_0)
                 clear hv380_0 ge380_0
                 have HX380_0 := aM hx380_0
                 clear hcc380 hce380
                 have HR380_0 := aM hi380_0
                 have HC380_0 := aM hl380_0
                 clear hi380_0 hl380_0
                 replace p380 := eq_true p380
                 replace q380 := eq_true q380
                 have p33 : 0 ≤ (x12_4 : Int) := dA
                 have q33 : (x12_4 : Int) < (((rd_L1 x8_4 x9_2).length : Int) : Int) := dA
                 obtain ⟨go33, co33, eo33, gb33, gl33, cl33, HG33⟩ := Kd.R_form HL380_0.out (by omega)
                 (first | cases eo33 | (injection eo33 with ea_ en_ ec_; (first | subst ea_ | (injection ea_ with ea_; subst ea_)); subst ec_; clear en_))
                 have GB33 := aM gb33
                 have GG33 := aM HG33
                 clear gb33 gl33 HG33
                 obtain ⟨hx33_0, hf33_0⟩ := Kd.R_celln 0 HL380_0.out (x12_4 : Int) p33 q33
                 replace p33 := eq_true p33
                 replace q33 := eq_true q33
                 have hq35 : (x9_2 : Int) < (x8_4.length : Int) := (by have h_ : (x9_2 : Int) < ((x8_4.length : Int) : Int) := dA; first | exact h_ | (have e_ := (Kd.S_reads' HO_8.out).1; omega) | simpa only [List.length_set, List.length_set] using h_)
                 obtain ⟨oki35, ce35, hcl35, hM35, hcc35, hok35, hbk35⟩ := Kd.S_borrow HO_8.out [] (x9_2 : Int) (dA) hq35
                 obtain ⟨ve35_0, rfl, ge35_0⟩ := hM35
                 have hv35 := hcc35 0 _ rfl
                 rw [Nat.add_zero, show ((Kd.slice 3 (Kd.int .i64))).sz = 1 from rfl, Nat.mul_one] at hv35
                 replace hv35 := Option.some.inj (hv35.symm.trans HX380_0.out)
                 subst hv35
                 clear hcc35 hcl35
                 replace ge35_0 := (show Kd.R (Kd.int .i64) 3 _ _ _ _ (rd_L1 x8_4 x9_2) from ge35_0)
                 have HP35 := Kd.R_putg ge35_0 (x12_4 : Int) a2_1
                 rw [← Ny381.out] at HP35
                 have HS35 := hbk35 HP35.2 (fun k_ e_ => by injection e_ with e_; subst e_; exact ge35_0.1 _ rfl) (x' := y381) (Kd.M_row HP35.1)
                 rw [← Ny383.out] at HS35
                 have HQ35 := aM HS35
                 clear HP35 HS35 hbk35 hok35
                 refine start_ (n := 9) (S := fun w' => w'.cell? ⟨gb368, 0, none⟩ = some (.slice A2_0 l2_0.length c2_0) ∧ w'.cell? ⟨gb368, 1, none⟩ = some (.int .i64 a2_1) ∧ w'.cell? ⟨gb368, 2, none⟩ = some (.int .i64 a2_2) ∧ w'.cell? ⟨gb368, 3, none⟩ = some (.int .i64 a2_3) ∧ w'.cell? ⟨gb368, 4, none⟩ = some (.int .i64 a2_4) ∧ w'.cell? ⟨gb368, 5, none⟩ = some (.int .i64 a2_5) ∧ w'.cell? (ad380.add (x9_2).toNat) = some (.slice (some ⟨go33, 0, none⟩) (rd_L1 x8_4 x9_2).length c380_0)) (ds := [8]) (mB 9 0) (by kernel_rfl) rfl rfl (cx6 BK368 hx380_0) (fun hHeld => ?_); refine with_tabW spec_PaintObject.tab14 spec_PaintObject.bits14 (fun HT_ HW_ => ?_)
                 generalize wr.drew = w34 at HO_8 HO_10 BK368 HB GG33 HL380_0 HQ35 HR380_0 HX380_0 hf33_0 hx33_0 hx380_0 hHeld ⊢
                 refine pU 0 (some 60) (mB 9 1) ?_
                 refine pU 1 (some 61) (mB 9 3) ?_
                 refine pU 2 (some 62) (mB 9 7) ?_
                 refine pU 4 (some 64) (mB 9 23) ?_
                 refine pU 5 (some 65) (mB 9 55) ?_
                 refine tK 3 (some 63) (mB 9 63) ?_
                 refine tK 6 (some 66) (mB 9 127) ?_
                 refine pU 7 (some 67) (mB 9 255) ?_
                 refine last_ (i := 8) (N := none) (mB 9 511) rfl rfl (one_of HT_.out (by kernel_rfl)) (by decide) (fun K hK => ?_)
                 refine skip_ (w1 := ?_) (by rfl) rfl ?_ ?_
                 rotate_left
                 ·go_simp
                  rfl
                 refine hK.out _ _ ?_
                 clear hK K
                 refine done_ (done_of HT_.out (by kernel_rfl)) ?_
                 try go_wp2
                 (try simp only [← hl8_4])
                 go_roundg k4
                 case measure => have := HJ4.out; have := HK2.out; have := HK3.out; have := HK4.out; omega
                 case rel => exact ⟨(y383), (wrap64 (x12_4 + 1)), fS, H', ⟨by have := HJ4.out; have := HK2.out; have := HK3.out; have := HK4.out; omega⟩, ⟨by (try simp only [hl8_3]); (try simp only [hl8_4]); (with_reducible repeat (first | apply Kd.S_alloc | apply Kd.S_drewN | apply Kd.S_drew)); exact HQ35.out⟩, ⟨by (try simp only [hl8_3]); (try simp only [hl8_4]); (with_reducible repeat (first | apply Kd.R_alloc | apply Kd.R_drewN | apply Kd.R_drew)); exact Kd.R_mono (Kd.R_far (p := ⟨go33, (x12_4 : Int).toNat, none⟩) (Kd.R_types HO_10.out GG33.out (by decide)) (fun _ hk => hk.2) (.int .i64 a2_1)) (fun _ hk => trivial)⟩, ⟨by (try simp only [hl8_3]); (try simp only [hl8_4]); (with_reducible repeat (first | refine blk_drewN ?_ _ | refine blk_drew ?_ | refine blk_alloc ?_ _)); refine blk_far ?_ (by have h_ := Kd.R_ne HL380_0.out BK368.out (by decide); intro e_; exact h_ (by rw [e_]; rfl)) _; (with_reducible repeat (first | refine blk_drewN ?_ _ | refine blk_drew ?_ | refine blk_alloc ?_ _)); exact BK368.out⟩, ⟨by repeat (first | (with_reducible first | exact HB.out | apply below_alloc | apply pw_below_drewN | apply below_drew1 | refine below_set ?_ GB33.out | refine below_set ?_ GE368.out) | exact HB.out)⟩⟩
                ·rw [if_neg c32] at H
                 exact absurd H (by simp)
               ·rw [if_neg c30] at H
                exact absurd H (by simp)
              ·have H' := aM H
               clear H
               have p379 : 0 ≤ (x11_3 : Int) := dA
               have q379 : x11_3 < (t375.length : Int) := dA
               obtain ⟨ad379, e379, hx379_0, hx379_1⟩ := at_T146 (Kd.R_reads' HO_10.out).2.2 x11_3 p379 q379
               obtain rfl : ad378 = ad379 := (by injection e379)
               replace p379 := eq_true p379
               replace q379 := eq_true q379
               go_wp2
               (try simp only [← hl8_3, ← hl8_4])
               go_roundg k4
               case measure => have := HJ4.out; have := HK2.out; have := HK3.out; have := HK4.out; omega
               case rel => exact ⟨(x8_4), (wrap64 (x11_3 + 1)), fS, H', ⟨by have := HJ4.out; have := HK2.out; have := HK3.out; have := HK4.out; omega⟩, ⟨by (try simp only [hl8_3]); (try simp only [hl8_4]); (with_reducible repeat (first | apply Kd.S_alloc | apply Kd.S_drewN | apply Kd.S_drew)); exact HO_8.out⟩, ⟨by (try simp only [hl8_3]); (try simp only [hl8_4]); (with_reducible repeat (first | apply Kd.R_alloc | apply Kd.R_drewN | apply Kd.R_drew)); exact HO_10.out⟩, ⟨by (try simp only [hl8_3]); (try simp only [hl8_4]); (with_reducible repeat (first | refine blk_drewN ?_ _ | refine blk_drew ?_ | refine blk_alloc ?_ _)); exact BK368.out⟩, ⟨bS⟩⟩
             ·rw [if_neg c27] at H
              exact absurd H (by simp)
          ·rw [if_neg c24] at H
           exact absurd H (by simp)
         ·rw [if_neg c23] at H
          have c23b0 : decide (x11_3 < (t375.length : Int)) = false := decide_eq_false c23
          (try (have c23b0_ := c23b0; simp only [hl8_3] at c23b0_))
          clear c23
          have H' := aM H
          clear H
          obtain ⟨Ao37, co37, eo37⟩ := Kd.R_slice HO_10.out
          subst eo37
          go_wp2
          (try simp only [← hl8_3])
          go_roundg k3
          case measure => have := HJ4.out; have := HK2.out; have := HK3.out; omega
          case rel => exact ⟨(x8_3), (wrap64 (x9_2 + 1)), fS, H', ⟨by have := HJ4.out; have := HK2.out; have := HK3.out; omega⟩, ⟨by (try simp only [hl8_3]); (with_reducible repeat (first | apply Kd.S_alloc | apply Kd.S_drewN | apply Kd.S_drew)); exact HO_8.out⟩, ⟨by (try simp only [hl8_3]); (with_reducible repeat (first | refine blk_drewN ?_ _ | refine blk_drew ?_ | refine blk_alloc ?_ _)); exact BK368.out⟩, ⟨bS⟩⟩
      ·rw [if_neg c18] at H
       have c18b0 : decide (x9_2 < (x8_2.length : Int)) = false := decide_eq_false c18
       clear c18
       obtain ⟨rfl, rfl⟩ := sI2 H
       obtain ⟨Ao38, co38, eo38⟩ := Kd.S_slice HO_8.out
       subst eo38
       go_wp2
       go_ret2
       exact ⟨_, eS, sS HO_8, bS⟩

/-! ### spec_MergeBand: function 17 -/
def spec_MergeBand.l0 : Nat → Int → Int → Int → List (List Int) → List (S49) → Int → Int → List (List Int) → List (S49) → Option (Int × Int × (List (List Int)) × (List (S49)))
 | 0, _, _, _, _, _, _, _, _, _ => none
 | k + 1, x4, x385000, x385001, x385002, x385003, x395000, x395001, x395002, x395003 => if x4 < (x385003.length : Int) then (if 0 ≤ x4 then ((spec_PaintObject.f k x395002 (wrap64 (x385000 * x385001)) ((rd_T49 x385003 x4).f0) ((rd_T49 x385003 x4).f1) ((rd_T49 x385003 x4).f2.f0) ((rd_T49 x385003 x4).f2.f1) ((rd_T49 x385003 x4).f2.f2) ((rd_T49 x385003 x4).f2.f3)).bind fun bt397 => (spec_MergeBand.l0 k (wrap64 (x4 + 1)) x385000 x385001 x385002 x385003 x395000 x395001 bt397.1 x395003)) else (none)) else (some (x395000, x395001, x395002, (([] : List (S49)))))
def spec_MergeBand.f (k : Nat) (a0_0 : Int) (a0_1 : Int) (l0_2 : List (List Int)) (l0_3 : List (S49)) : Option (Int × Int × (List (List Int)) × (List (S49))) := (spec_l13Copy.f k a0_0 a0_1 l0_2 l0_3).bind fun bt386 => ((spec_BandOk.f k a0_0 a0_1 l0_2 l0_3).bind fun t395 => (if t395 = true then (spec_MergeBand.l0 k 0 a0_0 a0_1 l0_2 l0_3 bt386.1 bt386.2.1 bt386.2.2.1 bt386.2.2.2) else (some (bt386.1, bt386.2.1, bt386.2.2.1, bt386.2.2.2))))
def spec_MergeBand.T7 : Bool × List (List Nat × List Nat) := (true, [([], []), ([0], [0]), ([], []), ([2], [2]), ([], []), ([4], [4]), ([3, 5], [3, 5]), ([], []), ([7], [7]), ([], []), ([8, 9], [8, 9]), ([10], [10]), ([1, 6, 11], [1, 6, 11]), ([12], [12]), ([13], [13]), ([13], [13]), ([0, 1, 2, 3, 4, 5, 6, 7, 8, 9, 10, 11, 12, 13, 14], []), ([16, 14, 12, 0, 1, 2, 3, 4, 5, 6, 7, 8, 9, 10, 11, 12, 13, 14], [14, 16])])
def spec_MergeBand.B7 : List Nat := [0, 1, 0, 4, 0, 16, 60, 0, 128, 0, 896, 1920, 4095, 8191, 16383, 16383, 32767, 98303]
theorem spec_MergeBand.tab7 : rtab .any (opsOf Tryz.f17 7) = spec_MergeBand.T7 := by kernel_rfl
theorem spec_MergeBand.bits7 : waitsOk spec_MergeBand.T7.2 spec_MergeBand.B7 = true := by kernel_rfl
theorem spec_MergeBand.calls (k : Nat) (a0_0 : Int) (a0_1 : Int) (A0_2 : Option Addr) (c0_2 : Nat) (l0_2 : List (List Int)) (A0_3 : Option Addr) (c0_3 : Nat) (l0_3 : List (S49)) (r1 : Int) (r2 : Int) (r3 : List (List Int)) (r4 : List (S49)) (w : World) (hr0_2 : Kd.C (Kd.slice 3 (Kd.int .i64)) w A0_2 l0_2.length l0_2) (hc0_2 : l0_2.length ≤ c0_2) (hr0_3 : Kd.C k49 w A0_3 l0_3.length l0_3) (hc0_3 : l0_3.length ≤ c0_3) (h : spec_MergeBand.f k a0_0 a0_1 l0_2 l0_3 = some (r1, r2, r3, r4)) :
  Calls Tryz.prog 17 #[.agg #[.int .i64 a0_0, .int .i64 a0_1, .slice A0_2 l0_2.length c0_2, .slice A0_3 l0_3.length c0_3]] w fun e w' => ∃ v2_ v3_ : Value, e = .returned (.agg #[.int .i64 r1, .int .i64 r2, v2_, v3_]) ∧ Kd.S (Kd.slice 3 (Kd.int .i64)) 54 w' w.heap.size (fun _ => True) v2_ r3 ∧ Kd.S k49 49 w' w.heap.size (fun _ => True) v3_ r4 ∧ Below w.heap.size w w' := by
 have hu30 := Tryz.underlying30
 have hu49 := Tryz.underlying49
 have HR0_2 := aM hr0_2
 have HC0_2 := aM hc0_2
 clear hr0_2 hc0_2
 have HR0_3 := aM hr0_3
 have HC0_3 := aM hc0_3
 clear hr0_3 hc0_3
 have HB := aM (Below.refl w.heap.size w)
 have H := h
 clear h
 unfold spec_MergeBand.f at H
 replace H := bN H
 obtain ⟨⟨t386, t387, t388, t391⟩, A2, H⟩ := H
 replace H := bN H
 obtain ⟨t395, A3, H⟩ := H
 by_cases c4 : t395 = true
 ·subst c4
  rw [if_pos rfl] at H
  have H' := aM H
  clear H
  go_enter Tryz.func17, Tryz.ntmps17
  go_wp2_with (first | ((with_reducible refine gD 1 ?_); refine bxE #[.int .i64 a0_0, .int .i64 a0_1, .slice A0_2 l0_2.length c0_2, .slice A0_3 l0_3.length c0_3] 30 ?_; intro gb384 hg w5 BK384 hb; have GW384 := gE hg; have GE384 := gE hg; replace HB := hB hb; clear hb hg) | ((with_reducible refine gD 2 ?_); refine bxE #[.int .i64 0, .int .i64 0, .slice none 0 0, .slice none 0 0] 30 ?_; intro gb385 hg w6 BK385 hb; have GW385 := gE hg; have GE385 := gE hg; have NB384_385 := nL_ gb384 hg; have NB385_384 := nG_ gb384 hg; replace BK384 := kB_ gb384 hb; replace HB := hB hb; clear hb hg; have hnb7 := NB384_385.out; have hnc7 := NB385_384.out; have hcz8_0 := cg0 BK384; have hcz8_1 := cg1 BK384; have hcz8_2 := cg2 BK384; have hcz8_3 := cg3 BK384; have hfz8_0 := blk_frozen BK384.out 0; have hfz8_1 := blk_frozen BK384.out 1; have hfz8_2 := blk_frozen BK384.out 2; have hfz8_3 := blk_frozen BK384.out 3) | ((with_reducible refine gC 52 ?_); refine cM (some 6) Tryz.func52 (spec_l13Copy.calls k a0_0 a0_1 _ _ l0_2 _ _ l0_3 t386 t387 t388 t391 _ (cC HR0_2 HB) HC0_2.out (cC HR0_3 HB) HC0_3.out A2.out) ?_; rintro e w9 ⟨v389, v392, rfl, ho0, ho1, hb⟩; refine ⟨_, rfl, ?_⟩; have HO390 := aM (Kd.S_lower ho0 (below_size bS)); have HO393 := aM (Kd.S_lower ho1 (below_size bS)); replace BK384 := kB_ gb384 hb; replace BK385 := kB_ gb385 hb; replace HB := hB hb; (try clear hb ho0 ho1)) | ((with_reducible refine gD 3 ?_); refine bxE #[.int .i64 0, .int .i64 0, .slice none 0 0, .slice none 0 0] 30 ?_; intro gb394 hg w10 BK394 hb; have GW394 := gE hg; have GE394 := gE hg; have NB384_394 := nL_ gb384 hg; have NB394_384 := nG_ gb384 hg; have NB385_394 := nL_ gb385 hg; have NB394_385 := nG_ gb385 hg; replace HO390 := sB HO390 hb; replace HO393 := sB HO393 hb; replace BK384 := kB_ gb384 hb; replace BK385 := kB_ gb385 hb; replace HB := hB hb; clear hb hg; have hnb11 := NB394_384.out; have hnc11 := NB384_394.out; have hnb12 := NB394_385.out; have hnc12 := NB385_394.out; have hcz13_0 := cg0 BK394; have hcz13_1 := cg1 BK394; have hcz13_2 := cg2 BK394; have hcz13_3 := cg3 BK394; have hfz13_0 := blk_frozen BK394.out 0; have hfz13_1 := blk_frozen BK394.out 1; have hfz13_2 := blk_frozen BK394.out 2; have hfz13_3 := blk_frozen BK394.out 3; obtain ⟨Ao14, co14, eo14⟩ := Kd.S_slice HO390.out; subst eo14; obtain ⟨Ao15, co15, eo15⟩ := Kd.S_slice HO393.out; subst eo15; have hcz16_0 := cg0 BK384; have hcz16_1 := cg1 BK384; have hcz16_2 := cg2 BK384; have hcz16_3 := cg3 BK384; have hfz16_0 := blk_frozen BK384.out 0; have hfz16_1 := blk_frozen BK384.out 1; have hfz16_2 := blk_frozen BK384.out 2; have hfz16_3 := blk_frozen BK384.out 3) | ((with_reducible refine gC 43 ?_); refine cM (some 8) Tryz.func43 (spec_BandOk.calls k a0_0 a0_1 _ _ l0_2 _ _ l0_3 _ _ (Kd.C_below HR0_2.out bS) HC0_2.out (Kd.C_below HR0_3.out bS) HC0_3.out A3.out) ?_; rintro e w17 ⟨rfl, hb⟩; refine ⟨_, rfl, ?_⟩; replace HO390 := aM (Kd.S_below (by exact sG HO390 BK394) hb); replace HO393 := aM (Kd.S_below (by exact sG HO393 BK394) hb); replace BK384 := kB_ gb384 hb; replace BK385 := kB_ gb385 hb; replace BK394 := kO gb394 #[.int .i64 t386, .int .i64 t387, .slice Ao14 t388.length co14, .slice Ao15 t391.length co15] 30 hb; replace HB := hB hb; (try clear hb hk)))
  go_loopg [4] k (fun kq v4 w' => ∃ (x4_1 : Int) (x395002_1 : List (List Int)) (u395002 : Value), v4 = .int .i64 x4_1 ∧ Aside0 (spec_MergeBand.l0 kq x4_1 a0_0 a0_1 l0_2 l0_3 t386 t387 x395002_1 t391 = some (r1, r2, r3, r4)) ∧ Aside0 (kq ≤ k) ∧ Aside0 (Kd.S (Kd.slice 3 (Kd.int .i64)) 54 w' w.heap.size (fun _ => True) u395002 x395002_1) ∧ Aside0 (Kd.S k49 49 w' w.heap.size (fun _ => True) (.slice Ao15 t391.length co15) t391) ∧ Aside0 (w'.heap[gb384]? = some (.cells #[.int .i64 a0_0, .int .i64 a0_1, (.slice A0_2 l0_2.length c0_2), (.slice A0_3 l0_3.length c0_3)] 30 (0, 0))) ∧ Aside0 (w'.heap[gb385]? = some (.cells #[.int .i64 0, .int .i64 0, (.slice none 0 0), (.slice none 0 0)] 30 (0, 0))) ∧ Aside0 (w'.heap[gb394]? = some (.cells #[.int .i64 t386, .int .i64 t387, u395002, (.slice Ao15 t391.length co15)] 30 (0, 0))) ∧ Aside0 (Below w.heap.size w w'))
  case atStart => exact ⟨(0), (t388), (.slice Ao14 t388.length co14), fS, H', ⟨Nat.le_refl _⟩, ⟨sS HO390⟩, ⟨sS HO393⟩, ⟨kS⟩, ⟨kS⟩, ⟨kS⟩, ⟨bS⟩⟩
  case round =>
   clear H'
   try clear c1
   try clear p2
   try clear c4
   try clear c5
   try clear c7
   try clear c11
   try clear c12
   try clear c17
   obtain ⟨x4_1, x395002_1, u395002, rfl, HA, HK1, HO_395002, HO_395003, BK384, BK385, BK394, HB⟩ := hrel
   cases gk with
   | zero => exact absurd HA.out (by simp [spec_MergeBand.l0])
   | succ k1 =>
    have H := HA.out
    clear HA
    simp only [spec_MergeBand.l0] at H
    rcases iD H with ⟨c18b0, H⟩ | ⟨c18b0, H⟩
    ·obtain ⟨c19b0, H⟩ := iT H
     replace H := bN H
     obtain ⟨⟨t397, t400⟩, A20, H⟩ := H
     have H' := aM H
     clear H
     have hnb21 := NB384_385.out
     have hnc21 := NB385_384.out
     have hnb22 := NB384_394.out
     have hnc22 := NB394_384.out
     have hz23 := cz4 BK384
     try go_wp2
     replace HO_395002 := aM (Kd.S_drew HO_395002.out)
     replace HO_395003 := aM (Kd.S_drew HO_395003.out)
     replace BK384 := aM (blk_drew BK384.out)
     replace BK385 := aM (blk_drew BK385.out)
     replace BK394 := aM (blk_drew BK394.out)
     replace HB := aM (below_drew1 HB.out)
     have p396 : 0 ≤ (x4_1 : Int) := dA
     have q396 : x4_1 < (l0_3.length : Int) := dA
     obtain ⟨ad396, A396_0, c396_0, e396, hx396_0, hx396_1, hx396_2, hx396_3, hx396_4, hx396_5, hl396_0, hi396_0⟩ := at_T49 HR0_3.out x4_1 p396 q396
     have hw396_5 := hx396_5
     have hw396_4 := hx396_4
     have hw396_3 := hx396_3
     have hw396_2 := hx396_2
     have hw396_1 := hx396_1
     have hw396_0 := hx396_0
     cases e396
     replace hx396_0 := cB HB hx396_0
     replace hx396_1 := cB HB hx396_1
     replace hx396_2 := cB HB hx396_2
     replace hx396_3 := cB HB hx396_3
     replace hx396_4 := cB HB hx396_4
     replace hx396_5 := cB HB hx396_5
     have HR396_0 := aM hi396_0
     have HC396_0 := aM hl396_0
     clear hi396_0 hl396_0
     replace p396 := eq_true p396
     replace q396 := eq_true q396
     obtain ⟨Ao25, co25, eo25⟩ := Kd.S_slice HO_395002.out
     (first | subst eo25 | obtain ⟨rfl, rfl⟩ := slE eo25)
     refine start_ (n := 18) (S := fun w' => w'.cell? ⟨gb394, 0, none⟩ = some (.int .i64 t386) ∧ w'.cell? ⟨gb394, 1, none⟩ = some (.int .i64 t387) ∧ w'.cell? ⟨gb394, 2, none⟩ = some (.slice Ao25 x395002_1.length co25) ∧ w'.cell? ⟨gb394, 3, none⟩ = some (.slice Ao15 t391.length co15) ∧ w'.cell? ⟨gb384, 0, none⟩ = some (.int .i64 a0_0) ∧ w'.cell? ⟨gb384, 1, none⟩ = some (.int .i64 a0_1) ∧ w'.cell? ⟨gb384, 2, none⟩ = some (.slice A0_2 l0_2.length c0_2) ∧ w'.cell? ⟨gb384, 3, none⟩ = some (.slice (some ad396) l0_3.length c0_3) ∧ w'.cell? (ad396.add ((x4_1).toNat * 6)) = some (.slice A396_0 ((rd_T49 l0_3 x4_1).f0).length c396_0) ∧ w'.cell? ⟨(ad396.add ((x4_1).toNat * 6)).block, (ad396.add ((x4_1).toNat * 6)).off + 1, none⟩ = some (.int .i64 ((rd_T49 l0_3 x4_1).f1)) ∧ w'.cell? ⟨(ad396.add ((x4_1).toNat * 6)).block, (ad396.add ((x4_1).toNat * 6)).off + 2, none⟩ = some (.int .i64 ((rd_T49 l0_3 x4_1).f2.f0)) ∧ w'.cell? ⟨(ad396.add ((x4_1).toNat * 6)).block, (ad396.add ((x4_1).toNat * 6)).off + 3, none⟩ = some (.int .i64 ((rd_T49 l0_3 x4_1).f2.f1)) ∧ w'.cell? ⟨(ad396.add ((x4_1).toNat * 6)).block, (ad396.add ((x4_1).toNat * 6)).off + 4, none⟩ = some (.int .i64 ((rd_T49 l0_3 x4_1).f2.f2)) ∧ w'.cell? ⟨(ad396.add ((x4_1).toNat * 6)).block, (ad396.add ((x4_1).toNat * 6)).off + 5, none⟩ = some (.int .i64 ((rd_T49 l0_3 x4_1).f2.f3))) (ds := [17]) (mB 18 0) (by kernel_rfl) rfl rfl (cx4 BK394 (cx4 BK384 ⟨(cB HB hw396_0), ⟨(cB HB hw396_1), ⟨(cB HB hw396_2), ⟨(cB HB hw396_3), ⟨(cB HB hw396_4), (cB HB hw396_5)⟩⟩⟩⟩⟩)) (fun hHeld => ?_); refine with_tabW spec_MergeBand.tab7 spec_MergeBand.bits7 (fun HT_ HW_ => ?_)
     generalize wr.drew = w24 at HO_395002 HO_395003 BK384 BK385 BK394 HB HR396_0 hx396_0 hx396_1 hx396_2 hx396_3 hx396_4 hx396_5 hHeld ⊢
     refine pU 0 (some 19) (mB 18 1) ?_
     refine pU 2 (some 21) (mB 18 5) ?_
     refine pU 4 (some 23) (mB 18 21) ?_
     refine pU 7 (some 26) (mB 18 149) ?_
     refine pU 9 (some 28) (mB 18 661) ?_
     refine tK 1 (some 20) (mB 18 663) ?_
     refine tK 3 (some 22) (mB 18 671) ?_
     refine tK 5 (some 24) (mB 18 703) ?_
     refine pU 6 (some 25) (mB 18 767) ?_
     refine tK 8 (some 27) (mB 18 1023) ?_
     refine pU 10 (some 29) (mB 18 2047) ?_
     refine tK 11 (some 30) (mB 18 4095) ?_
     refine one_ (i := 12) (N := some 31) (mB 18 8191) rfl rfl (one_of HT_.out (by kernel_rfl)) (by decide) (fun K hK => ?_)
     refine goes_ Tryz.func53 (by kernel_rfl) rfl #[.slice Ao25 x395002_1.length co25, .int .i64 (wrap64 (a0_0 * a0_1)), .agg #[.slice A396_0 ((rd_T49 l0_3 x4_1).f0).length c396_0, .int .i64 ((rd_T49 l0_3 x4_1).f1), .int .i64 ((rd_T49 l0_3 x4_1).f2.f0), .int .i64 ((rd_T49 l0_3 x4_1).f2.f1), .int .i64 ((rd_T49 l0_3 x4_1).f2.f2), .int .i64 ((rd_T49 l0_3 x4_1).f2.f3)]] (by rfl) rfl rfl mA ?_
     with_reducible refine (spec_PaintObject.calls k1 _ _ x395002_1 (wrap64 (a0_0 * a0_1)) _ _ ((rd_T49 l0_3 x4_1).f0) ((rd_T49 l0_3 x4_1).f1) ((rd_T49 l0_3 x4_1).f2.f0) ((rd_T49 l0_3 x4_1).f2.f1) ((rd_T49 l0_3 x4_1).f2.f2) ((rd_T49 l0_3 x4_1).f2.f3) t397 t400 _ ?side1 ?side2 ?side3 ?side4 A20.out).mono ?_
     (case side1 => exact cS (Kd.S_reads' HO_395002.out).2.2)
     (case side2 => exact (Kd.S_reads' HO_395002.out).2.1)
     (case side3 => exact cS (Kd.C_below HR396_0.out HB.out))
     (case side4 => exact HC396_0.out)
     rintro e w26 ⟨v398, rfl, ho0, hb⟩
     refine ⟨_, rfl, ?_⟩
     have HO399 := aM (Kd.S_lower (Kd.S_new' ho0 (Kd.S_lt (sS HO_395002))) (below_size bS))
     replace HO_395002 := aM (Kd.S_elder' (sS HO_395002) (Kd.S_base ho0) hb)
     replace HO_395003 := sB HO_395003 hb
     replace BK384 := kB_ gb384 hb
     replace BK385 := kB_ gb385 hb
     replace BK394 := kB_ gb394 hb
     replace HB := hB hb
     (try clear hb)
     (try clear hb2)
     (try clear hk)
     (try clear hi)
     (try clear ho0)
     obtain ⟨Ao27, co27, eo27⟩ := Kd.S_slice HO399.out
     (first | subst eo27 | obtain ⟨rfl, rfl⟩ := slE eo27)
     refine hK.out _ _ (cx4 BK394 (cx4 BK384 ⟨(cB HB hw396_0), ⟨(cB HB hw396_1), ⟨(cB HB hw396_2), ⟨(cB HB hw396_3), ⟨(cB HB hw396_4), (cB HB hw396_5)⟩⟩⟩⟩⟩)) (fun hHeld => ?_)
     clear hK K
     refine norm_ (a' := ?_) ?_ ?_
     rotate_left
     ·show Act.put _ (some 31) _ = _
      simp only [Act.put, List.setIfInBounds_toArray, List.set_cons_zero, List.set_cons_succ, i64_w, i32_w]
      rfl
     refine pU 13 (some 18) (mB 18 16383) ?_
     refine pU 14 (some 32) (mB 18 32767) ?_
     refine pU 15 (some 33) (mB 18 65535) ?_
     refine pU 16 (some 34) (mB 18 131071) ?_
     refine last_ (i := 17) (N := none) (mB 18 262143) rfl rfl (one_of HT_.out (by kernel_rfl)) (by decide) (fun K hK => ?_)
     have hs28 := cg2 BK394
     have hfs28 := blk_frozen BK394.out 2
     have hns28_0 := NB384_394.out
     have hns28_1 := NB385_394.out
     have hms28_0 := NB394_384.out
     have hms28_1 := NB394_385.out
     refine skip_ (w1 := ?_) (by rfl) rfl ?_ ?_
     rotate_left
     ·go_simp
      rfl
     refine hK.out _ _ ?_
     clear hK K
     refine done_ (done_of HT_.out (by kernel_rfl)) ?_
     try go_wp2
     go_roundg k1
     case measure => have := HK1.out; omega
     case rel => exact ⟨(wrap64 (x4_1 + 1)), (t397), (.slice Ao27 t397.length co27), fS, H', ⟨by have := HK1.out; omega⟩, ⟨by exact sT (Kd.S_mono (Kd.S_far (p := ⟨gb394, 2, none⟩) (Kd.S_types HO399.out BK394.out (by decide)) (fun _ hk => hk.2) (.slice Ao27 t397.length co27)) (fun _ hk => trivial))⟩, ⟨by exact sT (Kd.S_mono (Kd.S_far (p := ⟨gb394, 2, none⟩) (Kd.S_types HO_395003.out BK394.out (by decide)) (fun _ hk => hk.2) (.slice Ao27 t397.length co27)) (fun _ hk => trivial))⟩, ⟨kS⟩, ⟨kS⟩, ⟨kS⟩, ⟨bS⟩⟩
    ·obtain ⟨y401, hy401⟩ : ∃ y_ : List (S49), y_ = (([] : List (S49))) := ⟨_, rfl⟩
     replace H : (some (t386, t387, x395002_1, y401)) = some (r1, r2, r3, r4) := by first | (rw [hy401]; with_reducible exact H) | (have H2_ := (Option.bind_some _ _).symm.trans H; rw [hy401]; with_reducible exact H2_) | (have H2_ := (Option.bind_some _ _).symm.trans H; with_reducible exact H2_) | with_reducible exact H | (rw [hy401]; exact H) | exact H
     have Ny401 := aM hy401
     clear hy401
     obtain ⟨rfl, rfl, rfl, rfl⟩ := sI4 H
     have hnb29 := NB384_385.out
     have hnc29 := NB385_384.out
     have hnb30 := NB384_394.out
     have hnc30 := NB394_384.out
     have hz31 := cz4 BK384
     go_wp2_with (first | ((with_reducible refine gate_dst (N := 35) rfl ?_); refine Kd.S_lit k49 _ 49 ?hg (N := 35) ?hd (xs := ([] : List (S49))) (inner := []) (ok := fun _ => True) (okp := fun _ => True) ?hr ?hp (fun _ hk => hk) trivial (Below.refl _ _) (Nat.le_refl _) (by simp) ?_; (case hd => rfl); (case hg => rfl); (case hr => first | (go_simp; done) | (go_simp; rfl)); (case hp => exact (Reps.none _ _)); intro v402 w32 ho33 hb hg_ hnew_; clear hg_ hnew_; (first | rw [← Ny401.out] at ho33 | (simp only [Int.reduceToNat] at ho33; rw [← Ny401.out] at ho33)); have HO403 := aM (Kd.S_lower (Kd.S_new' ho33 (Kd.S_lt (sS HO_395003))) (below_size bS)); replace HO_395002 := sB HO_395002 hb; replace HO_395003 := aM (Kd.S_elder' (sS HO_395003) (Kd.S_base ho33) hb); replace BK384 := kB_ gb384 hb; replace BK385 := kB_ gb385 hb; replace BK394 := kB_ gb394 hb; replace HB := hB hb; clear hb ho33; obtain ⟨Ao34, co34, eo34⟩ := Kd.S_slice HO403.out; subst eo34; have hnb35 := NB394_385.out; have hnc35 := NB385_394.out; have hz36 := cz4 BK394; have hz37 := cz4 BK385; obtain ⟨Ao38, co38, eo38⟩ := Kd.S_slice HO_395002.out; subst eo38))
     refine bodyPost_ret (results_cell_row rfl _ _ gb385 30 #[.int .i64 t386, .int .i64 t387, .slice Ao38 x395002_1.length co38, .slice Ao34 y401.length co34] (0, 0) _ rfl kS Tryz.underlying30 rfl (by kernel_rfl)) rfl ?_
     exact ⟨_, _, eS, by exact sT (Kd.S_mono (Kd.S_far (p := ⟨gb385, 3, none⟩) (Kd.S_far (p := ⟨gb385, 2, none⟩) (Kd.S_far (p := ⟨gb385, 1, none⟩) (Kd.S_far (p := ⟨gb385, 0, none⟩) (Kd.S_far (p := ⟨gb394, 3, none⟩) (Kd.S_types (Kd.S_types HO_395002.out BK394.out (by decide)) BK385.out (by decide)) (fun _ hk => hk.1.2) (.slice Ao34 y401.length co34)) (fun _ hk => hk.2) (.int .i64 t386)) (fun _ hk => hk.2) (.int .i64 t387)) (fun _ hk => hk.2) (.slice Ao38 x395002_1.length co38)) (fun _ hk => hk.2) (.slice Ao34 y401.length co34)) (fun _ hk => trivial)), by exact sT (Kd.S_mono (Kd.S_far (p := ⟨gb385, 3, none⟩) (Kd.S_far (p := ⟨gb385, 2, none⟩) (Kd.S_far (p := ⟨gb385, 1, none⟩) (Kd.S_far (p := ⟨gb385, 0, none⟩) (Kd.S_far (p := ⟨gb394, 3, none⟩) (Kd.S_types (Kd.S_types HO403.out BK394.out (by decide)) BK385.out (by decide)) (fun _ hk => hk.1.2) (.slice Ao34 y401.length co34)) (fun _ hk => hk.2) (.int .i64 t386)) (fun _ hk => hk.2) (.int .i64 t387)) (fun _ hk => hk.2) (.slice Ao38 x395002_1.length co38)) (fun _ hk => hk.2) (.slice Ao34 y401.length co34)) (fun _ hk => trivial)), bS⟩
 ·obtain rfl := Bool.eq_false_iff.mpr c4
  rw [if_neg nF] at H
  obtain ⟨rfl, rfl, rfl, rfl⟩ := sI4 H
  go_enter Tryz.func17, Tryz.ntmps17
  go_wp2_with (first | ((with_reducible refine gD 1 ?_); refine bxE #[.int .i64 a0_0, .int .i64 a0_1, .slice A0_2 l0_2.length c0_2, .slice A0_3 l0_3.length c0_3] 30 ?_; intro gb384 hg w39 BK384 hb; have GW384 := gE hg; have GE384 := gE hg; replace HB := hB hb; clear hb hg) | ((with_reducible refine gD 2 ?_); refine bxE #[.int .i64 0, .int .i64 0, .slice none 0 0, .slice none 0 0] 30 ?_; intro gb385 hg w40 BK385 hb; have GW385 := gE hg; have GE385 := gE hg; have NB384_385 := nL_ gb384 hg; have NB385_384 := nG_ gb384 hg; replace BK384 := kB_ gb384 hb; replace HB := hB hb; clear hb hg; have hnb41 := NB384_385.out; have hnc41 := NB385_384.out; have hz42 := cz4 BK384) | ((with_reducible refine gC 52 ?_); refine cM (some 6) Tryz.func52 (spec_l13Copy.calls k a0_0 a0_1 _ _ l0_2 _ _ l0_3 t386 t387 t388 t391 _ (cC HR0_2 HB) HC0_2.out (cC HR0_3 HB) HC0_3.out A2.out) ?_; rintro e w43 ⟨v389, v392, rfl, ho0, ho1, hb⟩; refine ⟨_, rfl, ?_⟩; have HO390 := aM (Kd.S_lower ho0 (below_size bS)); have HO393 := aM (Kd.S_lower ho1 (below_size bS)); replace BK384 := kB_ gb384 hb; replace BK385 := kB_ gb385 hb; replace HB := hB hb; (try clear hb ho0 ho1)) | ((with_reducible refine gD 3 ?_); refine bxE #[.int .i64 0, .int .i64 0, .slice none 0 0, .slice none 0 0] 30 ?_; intro gb394 hg w44 BK394 hb; have GW394 := gE hg; have GE394 := gE hg; have NB384_394 := nL_ gb384 hg; have NB394_384 := nG_ gb384 hg; have NB385_394 := nL_ gb385 hg; have NB394_385 := nG_ gb385 hg; replace HO390 := sB HO390 hb; replace HO393 := sB HO393 hb; replace BK384 := kB_ gb384 hb; replace BK385 := kB_ gb385 hb; replace HB := hB hb; clear hb hg; have hnb45 := NB394_384.out; have hnc45 := NB384_394.out; have hnb46 := NB394_385.out; have hnc46 := NB385_394.out; have hz47 := cz4 BK394; obtain ⟨Ao48, co48, eo48⟩ := Kd.S_slice HO390.out; subst eo48; obtain ⟨Ao49, co49, eo49⟩ := Kd.S_slice HO393.out; subst eo49; have hz50 := cz4 BK384) | ((with_reducible refine gC 43 ?_); refine cM (some 8) Tryz.func43 (spec_BandOk.calls k a0_0 a0_1 _ _ l0_2 _ _ l0_3 _ _ (Kd.C_below HR0_2.out bS) HC0_2.out (Kd.C_below HR0_3.out bS) HC0_3.out A3.out) ?_; rintro e w51 ⟨rfl, hb⟩; refine ⟨_, rfl, ?_⟩; replace HO390 := aM (Kd.S_below (by exact sG HO390 BK394) hb); replace HO393 := aM (Kd.S_below (by exact sG HO393 BK394) hb); replace BK384 := kB_ gb384 hb; replace BK385 := kB_ gb385 hb; replace BK394 := kO gb394 #[.int .i64 t386, .int .i64 t387, .slice Ao48 t388.length co48, .slice Ao49 t391.length co49] 30 hb; replace HB := hB hb; (try clear hb hk); have hz52 := cz4 BK394; have hz53 := cz4 BK385))
  refine bodyPost_ret (results_cell_row rfl _ _ gb385 30 #[.int .i64 t386, .int .i64 t387, .slice Ao48 t388.length co48, .slice Ao49 t391.length co49] (0, 0) _ rfl kS Tryz.underlying30 rfl (by kernel_rfl)) rfl ?_
  exact ⟨_, _, eS, by exact sT (Kd.S_mono (Kd.S_far (p := ⟨gb385, 3, none⟩) (Kd.S_far (p := ⟨gb385, 2, none⟩) (Kd.S_far (p := ⟨gb385, 1, none⟩) (Kd.S_far (p := ⟨gb385, 0, none⟩) (Kd.S_types HO390.out BK385.out (by decide)) (fun _ hk => hk.2) (.int .i64 t386)) (fun _ hk => hk.2) (.int .i64 t387)) (fun _ hk => hk.2) (.slice Ao48 t388.length co48)) (fun _ hk => hk.2) (.slice Ao49 t391.length co49)) (fun _ hk => trivial)), by exact sT (Kd.S_mono (Kd.S_far (p := ⟨gb385, 3, none⟩) (Kd.S_far (p := ⟨gb385, 2, none⟩) (Kd.S_far (p := ⟨gb385, 1, none⟩) (Kd.S_far (p := ⟨gb385, 0, none⟩) (Kd.S_types HO393.out BK385.out (by decide)) (fun _ hk => hk.2) (.int .i64 t386)) (fun _ hk => hk.2) (.int .i64 t387)) (fun _ hk => hk.2) (.slice Ao48 t388.length co48)) (fun _ hk => hk.2) (.slice Ao49 t391.length co49)) (fun _ hk => trivial)), bS⟩

/-! ### spec_TouchesBand: function 59 -/
def spec_TouchesBand.f (k : Nat) (l0_0 : List (S151)) (a0_1 : Int) (a0_2 : Int) (a0_3 : Int) (a0_4 : Int) (a0_5 : Int) (a1 : Int) (a2 : Int) : Option (Bool) := (spec_ObjectBox.f k l0_0 a0_1 a0_2 a0_3 a0_4 a0_5).bind fun bt405 => ((spec_l12Ok.f a1 a2).bind fun t410 => (if t410 = true then ((spec_CountDots.f bt405.1 bt405.2.1 bt405.2.2.1 bt405.2.2.2).bind fun t411 => (if t411 > 0 then (if bt405.2.1 < (wrap64 ((wrap64 (a2 * a1)) + a1)) then (some (decide (bt405.2.2.2 > (wrap64 (a2 * a1))))) else (some false)) else (some false))) else (some false)))
theorem spec_TouchesBand.lf0 {p : Prop} (h : p := by
 go_enter Tryz.func59, Tryz.ntmps59
 go_wp2_with (first | ((with_reducible refine gD 3 ?_); refine bxE #[.slice A0_0 l0_0.length c0_0, .int .i64 a0_1, .int .i64 a0_2, .int .i64 a0_3, .int .i64 a0_4, .int .i64 a0_5] 49 ?_; intro gb404 hg w10 BK404 hb; have GW404 := gE hg; have GE404 := gE hg; replace HB := hB hb; clear hb hg; have hz11 := cz6 BK404) | ((with_reducible refine gC 121 ?_); refine cM (some 9) Tryz.func121 (spec_ObjectBox.calls k _ _ l0_0 a0_1 a0_2 a0_3 a0_4 a0_5 t405 t406 t407 t408 _ (cC HR0_0 HB) HC0_0.out A4.out) ?_; rintro e w12 ⟨rfl, hb⟩; refine ⟨_, rfl, ?_⟩; replace BK404 := kB_ gb404 hb; replace HB := hB hb; (try clear hb)) | ((with_reducible refine gD 7 ?_); refine bxE #[.int .i64 0, .int .i64 0, .int .i64 0, .int .i64 0] 47 ?_; intro gb409 hg w13 BK409 hb; have GW409 := gE hg; have GE409 := gE hg; have NB404_409 := nL_ gb404 hg; have NB409_404 := nG_ gb404 hg; replace BK404 := kB_ gb404 hb; replace HB := hB hb; clear hb hg; have hnb14 := NB409_404.out; have hnc14 := NB404_409.out; have hz15 := cz4 BK409) | ((with_reducible refine gC 107 ?_); refine cM (some 12) Tryz.func107 (spec_l12Ok.calls a1 a2 _ _ A5.out) ?_; rintro e w' ⟨rfl, ⟨nd, rfl⟩⟩; refine ⟨_, rfl, ?_⟩) | (go_at_call 122; (with_reducible refine (spec_CountDots.calls t405 t406 t407 t408 t411 _ A7.out).mono ?_); rintro e w16 ⟨rfl, hb⟩; replace BK404 := kB_ gb404 hb; replace BK409 := kO gb409 #[.int .i64 t405, .int .i64 t406, .int .i64 t407, .int .i64 t408] 47 hb; replace HB := hB hb; (try clear hb); have hz17 := cz4 BK409))
 go_ret
 exact ⟨eS, bS⟩) : p := h
theorem spec_TouchesBand.calls (k : Nat) (A0_0 : Option Addr) (c0_0 : Nat) (l0_0 : List (S151)) (a0_1 : Int) (a0_2 : Int) (a0_3 : Int) (a0_4 : Int) (a0_5 : Int) (a1 : Int) (a2 : Int) (r : Bool) (w : World) (hr0_0 : Kd.C k151 w A0_0 l0_0.length l0_0) (hc0_0 : l0_0.length ≤ c0_0) (h : spec_TouchesBand.f k l0_0 a0_1 a0_2 a0_3 a0_4 a0_5 a1 a2 = some r) :
  Calls Tryz.prog 59 #[.agg #[.slice A0_0 l0_0.length c0_0, .int .i64 a0_1, .int .i64 a0_2, .int .i64 a0_3, .int .i64 a0_4, .int .i64 a0_5], .int .i64 a1, .int .i64 a2] w fun e w' => e = .returned (.bool r) ∧ Below w.heap.size w w' := by
 have hu49 := Tryz.underlying49
 have hu47 := Tryz.underlying47
 have HR0_0 := aM hr0_0
 have HC0_0 := aM hc0_0
 clear hr0_0 hc0_0
 have HB := aM (Below.refl w.heap.size w)
 have H := h
 clear h
 unfold spec_TouchesBand.f at H
 replace H := bN H
 obtain ⟨⟨t405, t406, t407, t408⟩, A4, H⟩ := H
 replace H := bN H
 obtain ⟨t410, A5, H⟩ := H
 by_cases c6 : t410 = true
 ·subst c6
  rw [if_pos rfl] at H
  replace H := bN H
  obtain ⟨t411, A7, H⟩ := H
  by_cases c8 : t411 > 0
  ·rw [if_pos c8] at H
   have c8b0 : decide (0 < t411) = true := decide_eq_true c8
   clear c8
   rcases iD H with ⟨c9b0, H⟩ | ⟨c9b0, H⟩
   ·obtain rfl := Option.some.inj H
    exact spec_TouchesBand.lf0
   ·obtain rfl := Option.some.inj H
    exact spec_TouchesBand.lf0
  ·rw [if_neg c8] at H
   have c8b0 : decide (0 < t411) = false := decide_eq_false c8
   clear c8
   obtain rfl := Option.some.inj H
   go_enter Tryz.func59, Tryz.ntmps59
   go_wp2_with (first | ((with_reducible refine gD 3 ?_); refine bxE #[.slice A0_0 l0_0.length c0_0, .int .i64 a0_1, .int .i64 a0_2, .int .i64 a0_3, .int .i64 a0_4, .int .i64 a0_5] 49 ?_; intro gb404 hg w26 BK404 hb; have GW404 := gE hg; have GE404 := gE hg; replace HB := hB hb; clear hb hg; have hz27 := cz6 BK404) | ((with_reducible refine gC 121 ?_); refine cM (some 9) Tryz.func121 (spec_ObjectBox.calls k _ _ l0_0 a0_1 a0_2 a0_3 a0_4 a0_5 t405 t406 t407 t408 _ (cC HR0_0 HB) HC0_0.out A4.out) ?_; rintro e w28 ⟨rfl, hb⟩; refine ⟨_, rfl, ?_⟩; replace BK404 := kB_ gb404 hb; replace HB := hB hb; (try clear hb)) | ((with_reducible refine gD 7 ?_); refine bxE #[.int .i64 0, .int .i64 0, .int .i64 0, .int .i64 0] 47 ?_; intro gb409 hg w29 BK409 hb; have GW409 := gE hg; have GE409 := gE hg; have NB404_409 := nL_ gb404 hg; have NB409_404 := nG_ gb404 hg; replace BK404 := kB_ gb404 hb; replace HB := hB hb; clear hb hg; have hnb30 := NB409_404.out; have hnc30 := NB404_409.out; have hz31 := cz4 BK409) | ((with_reducible refine gC 107 ?_); refine cM (some 12) Tryz.func107 (spec_l12Ok.calls a1 a2 _ _ A5.out) ?_; rintro e w' ⟨rfl, ⟨nd, rfl⟩⟩; refine ⟨_, rfl, ?_⟩) | (go_at_call 122; (with_reducible refine (spec_CountDots.calls t405 t406 t407 t408 t411 _ A7.out).mono ?_); rintro e w32 ⟨rfl, hb⟩; replace BK404 := kB_ gb404 hb; replace BK409 := kO gb409 #[.int .i64 t405, .int .i64 t406, .int .i64 t407, .int .i64 t408] 47 hb; replace HB := hB hb; (try clear hb)))
   go_ret
   exact ⟨eS, bS⟩
 ·obtain rfl := Bool.eq_false_iff.mpr c6
  rw [if_neg nF] at H
  obtain rfl := Option.some.inj H
  exact spec_TouchesBand.lf0

end Go.Proofs.YtncfipboidmfbaaGreat.QFnExactAddToBand
