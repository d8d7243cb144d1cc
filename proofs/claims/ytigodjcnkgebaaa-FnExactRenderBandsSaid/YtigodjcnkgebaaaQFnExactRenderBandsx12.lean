-- Made out of the translation by a program of this session (a changed copy of the print). Not trusted: Lean checks it.
import Derived.Test.YtigodjcnkgebaaaQFnExactRenderBandsx0
import Derived.Test.YtigodjcnkgebaaaQFnExactRenderBandsx11
namespace Go.Proofs.Ytigodjcnkgebaaa.QFnExactRenderBands
open Go.RowKit Go.Proofs.YtigodjcnkgebaaaW.PrintWords Go.Proofs.YtigodjcnkgebaaaW.PrintLast Go.Proofs.YtigodjcnkgebaaaW.PrintMore
attribute [local go_sem] max2_int min2_int max_two min_two max_three min_three max_four min_four   -- for this text's walks alone
set_option linter.unusedVariables false
set_option linter.unusedSimpArgs false
set_option maxHeartbeats 8000000
set_option maxRecDepth 100000

/-! ### spec_MeetSpans: function 83 -/
def spec_MeetSpans.l0 : Nat → List (S124) → Int → Int → List (S124) → Int → Option ((List (S124)))
 | 0, _, _, _, _, _ => none
 | k + 1, x0, x1, x2, x7, x8 => if x8 < (x0.length : Int) then (if 0 ≤ x8 then (if (mx ((rd_T124 x0 x8).f0) x1) < (mn ((rd_T124 x0 x8).f1) x2) then (if x7.length < 8796093022208 then (spec_MeetSpans.l0 k x0 x1 x2 (x7 ++ [(⟨mx ((rd_T124 x0 x8).f0) x1, mn ((rd_T124 x0 x8).f1) x2⟩ : S124)]) (wrap64 (x8 + 1))) else (none)) else (spec_MeetSpans.l0 k x0 x1 x2 x7 (wrap64 (x8 + 1)))) else (none)) else (some x7)
def spec_MeetSpans.f (k : Nat) (l0 : List (S124)) (a1 : Int) (a2 : Int) : Option ((List (S124))) := (some (([] : List (S124)) : List (S124))).bind fun y398 => ((spec_SpansOk.f k l0).bind fun t401 => (if t401 = true then (spec_MeetSpans.l0 k l0 a1 a2 y398 0) else (some y398)))
def spec_MeetSpans.T7 : Bool × List (List Nat × List Nat) := (true, [([], []), ([], []), ([0, 1], [0, 1]), ([2], [2]), ([3], [3]), ([], []), ([4, 5], [4, 5]), ([], []), ([], []), ([7, 8], [7, 8]), ([9], [9]), ([10], [10]), ([], []), ([11, 12], [11, 12]), ([6, 13], [6, 13]), ([], []), ([15, 14, 0, 1, 2, 3, 4, 5, 6, 7, 8, 9, 10, 11, 12, 13, 14, 15], [14, 15])])
def spec_MeetSpans.B7 : List Nat := [0, 0, 3, 7, 15, 0, 63, 0, 0, 384, 896, 1920, 0, 8064, 16383, 0, 65535]
theorem spec_MeetSpans.tab7 : rtab .any (opsOf Try.f83 7) = spec_MeetSpans.T7 := by kernel_rfl
theorem spec_MeetSpans.bits7 : waitsOk spec_MeetSpans.T7.2 spec_MeetSpans.B7 = true := by kernel_rfl
theorem spec_MeetSpans.calls (k : Nat) (A0 : Option Addr) (c0 : Nat) (l0 : List (S124)) (a1 : Int) (a2 : Int) (r : List (S124)) (w : World) (hr0 : Kd.C k124 w A0 l0.length l0) (hc0 : l0.length ≤ c0) (h : spec_MeetSpans.f k l0 a1 a2 = some r) :
  Calls Try.prog 83 #[.slice A0 l0.length c0, .int .i64 a1, .int .i64 a2] w fun e w' => ∃ v0_ : Value, e = .returned (v0_) ∧ Kd.R k124 124 w' w.heap.size (fun _ => True) v0_ r ∧ Below w.heap.size w w' := by
 have hu124 := Try.underlying124
 have HR0 := Aside0.mk hr0
 have HC0 := Aside0.mk hc0
 clear hr0 hc0
 have HB := Aside0.mk (Below.refl w.heap.size w)
 have H : ((some (([] : List (S124)) : List (S124))).bind fun y398 => ((spec_SpansOk.f k l0).bind fun t401 => (if t401 = true then (spec_MeetSpans.l0 k l0 a1 a2 y398 0) else (some y398)))) = some r := h
 clear h
 obtain ⟨y398, hy398⟩ : ∃ y_ : List (S124), y_ = (([] : List (S124))) := ⟨_, rfl⟩
 replace H : ((spec_SpansOk.f k l0).bind fun t401 => (if t401 = true then (spec_MeetSpans.l0 k l0 a1 a2 y398 0) else (some y398))) = some r := by first | (rw [hy398]; with_reducible exact H) | (have H2_ := (Option.bind_some _ _).symm.trans H; rw [hy398]; with_reducible exact H2_) | (have H2_ := (Option.bind_some _ _).symm.trans H; with_reducible exact H2_) | with_reducible exact H | (rw [hy398]; exact H) | exact H
 have Ny398 := Aside0.mk hy398
 clear hy398
 replace H := bN H
 obtain ⟨t401, A4, H⟩ := H
 by_cases c5 : t401 = true
 ·subst c5
  rw [if_pos rfl] at H
  have H' := Aside0.mk H
  clear H
  go_enter Try.func83, Try.ntmps83
  go_wp2_with (first | ((with_reducible refine gate_dst (N := 10) rfl ?_); refine Kd.R_lit k124 _ 124 ?hg (N := 10) ?hd (xs := ([] : List (S124))) (inner := []) (ok := fun _ => True) (okp := fun _ => True) ?hr ?hp (fun _ hk => hk) trivial (Below.refl _ _) (Nat.le_refl _) (by simp) ?_; (case hd => rfl); (case hg => rfl); (case hr => first | (go_simp; done) | (go_simp; rfl)); (case hp => exact (Reps.none _ _)); intro v399 w6 ho7 hb hg_ hnew_; clear hg_ hnew_; (first | rw [← Ny398.out] at ho7 | (simp only [Int.reduceToNat] at ho7; rw [← Ny398.out] at ho7)); have HO400 := Aside0.mk (Kd.R_lower ho7 (below_size bS)); replace HB := hB hb; clear hb ho7) | ((with_reducible refine gC 146 ?_); refine cL (some 12) Try.func146 #[.slice A0 l0.length c0] ?_; (with_reducible refine (spec_SpansOk.calls k _ _ l0 _ _ (cS (Kd.C_below HR0.out HB.out)) HC0.out A4.out).mono ?_); rintro e w' ⟨rfl, ⟨nd, rfl⟩⟩; refine ⟨_, rfl, ?_⟩))
  go_loopg [7, 8] k (fun kq v7 v8 w' => ∃ (x7_1 : List (S124)) (x8_1 : Int), v8 = .int .i64 x8_1 ∧ Aside0 (spec_MeetSpans.l0 kq l0 a1 a2 x7_1 x8_1 = some r) ∧ Aside0 (kq ≤ k) ∧ Aside0 (Kd.R k124 124 w' w.heap.size (fun _ => True) v7 x7_1) ∧ Aside0 (Below w.heap.size w w'))
  case atStart => exact ⟨(y398), (0), fS, H', ⟨Nat.le_refl _⟩, ⟨rS HO400⟩, ⟨bS⟩⟩
  case round =>
   clear H'
   try clear c1
   try clear p2
   try clear c5
   obtain ⟨x7_1, x8_1, rfl, HA, HK1, HO_7, HB⟩ := hrel
   cases gk with
   | zero => exact absurd HA.out (by simp [spec_MeetSpans.l0])
   | succ k1 =>
    have H := HA.out
    clear HA
    simp only [spec_MeetSpans.l0] at H
    rcases iD H with ⟨c8b0, H⟩ | ⟨c8b0, H⟩
    ·obtain ⟨c9b0, H⟩ := iT H
     obtain ⟨ji10, hji10⟩ : ∃ j_ : Int, (mx ((rd_T124 l0 x8_1).f0) a1) = j_ := ⟨_, rfl⟩
     replace H : (if (ji10) < (mn ((rd_T124 l0 x8_1).f1) a2) then (if x7_1.length < 8796093022208 then (spec_MeetSpans.l0 k1 l0 a1 a2 (x7_1 ++ [(⟨ji10, mn ((rd_T124 l0 x8_1).f1) a2⟩ : S124)]) (wrap64 (x8_1 + 1))) else (none)) else (spec_MeetSpans.l0 k1 l0 a1 a2 x7_1 (wrap64 (x8_1 + 1)))) = some r := by first | (rw [hji10] at H; exact H) | (simp only [hji10] at H ⊢; exact H)
     have hji10_ : (if ((rd_T124 l0 x8_1).f0) < a1 then a1 else ((rd_T124 l0 x8_1).f0)) = ji10 := hji10
     obtain ⟨ji11, hji11⟩ : ∃ j_ : Int, (mn ((rd_T124 l0 x8_1).f1) a2) = j_ := ⟨_, rfl⟩
     replace H : (if (ji10) < (ji11) then (if x7_1.length < 8796093022208 then (spec_MeetSpans.l0 k1 l0 a1 a2 (x7_1 ++ [(⟨ji10, ji11⟩ : S124)]) (wrap64 (x8_1 + 1))) else (none)) else (spec_MeetSpans.l0 k1 l0 a1 a2 x7_1 (wrap64 (x8_1 + 1)))) = some r := by first | (rw [hji11] at H; exact H) | (simp only [hji11] at H ⊢; exact H)
     have hji11_ : (if a2 < ((rd_T124 l0 x8_1).f1) then a2 else ((rd_T124 l0 x8_1).f1)) = ji11 := hji11
     rcases iD H with ⟨c12b0, H⟩ | ⟨c12b0, H⟩
     ·obtain ⟨LMc13, H⟩ := iL H
      obtain ⟨y405, hy405⟩ : ∃ y_ : List (S124), y_ = (x7_1 ++ [(⟨ji10, ji11⟩ : S124)]) := ⟨_, rfl⟩
      replace H : (spec_MeetSpans.l0 k1 l0 a1 a2 y405 (wrap64 (x8_1 + 1))) = some r := by first | (rw [hy405]; with_reducible exact H) | (have H2_ := (Option.bind_some _ _).symm.trans H; rw [hy405]; with_reducible exact H2_) | (have H2_ := (Option.bind_some _ _).symm.trans H; with_reducible exact H2_) | with_reducible exact H | (rw [hy405]; exact H) | exact H
      have Ny405 := Aside0.mk hy405
      clear hy405
      have H' := Aside0.mk H
      clear H
      try go_wp2
      replace HO_7 := Aside0.mk (Kd.R_drew HO_7.out)
      replace HB := Aside0.mk (below_drew1 HB.out)
      have p402 : 0 ≤ (x8_1 : Int) := dA
      have q402 : x8_1 < (l0.length : Int) := dA
      obtain ⟨ad402, e402, hx402_0, hx402_1⟩ := at_T124 HR0.out x8_1 p402 q402
      have hw402_1 := hx402_1
      have hw402_0 := hx402_0
      cases e402
      replace hx402_0 := cB HB hx402_0
      replace hx402_1 := cB HB hx402_1
      replace p402 := eq_true p402
      replace q402 := eq_true q402
      have p403 : 0 ≤ (x8_1 : Int) := dA
      have q403 : x8_1 < (l0.length : Int) := dA
      obtain ⟨ad403, e403, hx403_0, hx403_1⟩ := at_T124 HR0.out x8_1 p403 q403
      have hw403_1 := hx403_1
      have hw403_0 := hx403_0
      obtain rfl : ad402 = ad403 := (by injection e403)
      replace hx403_0 := cB HB hx403_0
      replace hx403_1 := cB HB hx403_1
      replace p403 := eq_true p403
      replace q403 := eq_true q403
      refine start_ (n := 17) (S := fun w' => w'.cell? (ad402.add ((x8_1).toNat * 2)) = some (.int .i64 ((rd_T124 l0 x8_1).f0)) ∧ w'.cell? ⟨(ad402.add ((x8_1).toNat * 2)).block, (ad402.add ((x8_1).toNat * 2)).off + 1, none⟩ = some (.int .i64 ((rd_T124 l0 x8_1).f1)) ∧ w'.cell? (ad402.add ((x8_1).toNat * 2)) = some (.int .i64 ((rd_T124 l0 x8_1).f0)) ∧ w'.cell? ⟨(ad402.add ((x8_1).toNat * 2)).block, (ad402.add ((x8_1).toNat * 2)).off + 1, none⟩ = some (.int .i64 ((rd_T124 l0 x8_1).f1))) (ds := []) #[false, false, false, false, false, false, false, false, false, false, false, false, false, false, false, false, false] (by kernel_rfl) rfl rfl ⟨(cB HB hw402_0), (cB HB hw402_1), (cB HB hw403_0), (cB HB hw403_1)⟩ (fun hHeld => ?_); refine with_tabW spec_MeetSpans.tab7 spec_MeetSpans.bits7 (fun HT_ HW_ => ?_)
      generalize wr.drew = w14 at HO_7 HB hx402_0 hx402_1 hx403_0 hx403_1 hHeld ⊢
      refine pU 0 (some 21) #[true, false, false, false, false, false, false, false, false, false, false, false, false, false, false, false, false] ?_
      refine pU 1 (some 22) #[true, true, false, false, false, false, false, false, false, false, false, false, false, false, false, false, false] ?_
      refine pU 2 (some 23) #[true, true, true, false, false, false, false, false, false, false, false, false, false, false, false, false, false] ?_
      refine pU 3 (some 24) #[true, true, true, true, false, false, false, false, false, false, false, false, false, false, false, false, false] ?_
      refine pU 5 (some 26) #[true, true, true, true, false, true, false, false, false, false, false, false, false, false, false, false, false] ?_
      refine pU 7 (some 28) #[true, true, true, true, false, true, false, true, false, false, false, false, false, false, false, false, false] ?_
      refine pU 8 (some 29) #[true, true, true, true, false, true, false, true, true, false, false, false, false, false, false, false, false] ?_
      refine pU 9 (some 30) #[true, true, true, true, false, true, false, true, true, true, false, false, false, false, false, false, false] ?_
      refine pU 10 (some 31) #[true, true, true, true, false, true, false, true, true, true, true, false, false, false, false, false, false] ?_
      refine pU 12 (some 33) #[true, true, true, true, false, true, false, true, true, true, true, false, true, false, false, false, false] ?_
      refine tK 4 (some 25) #[true, true, true, true, true, true, false, true, true, true, true, false, true, false, false, false, false] ?_
      refine pU 6 (some 27) #[true, true, true, true, true, true, true, true, true, true, true, false, true, false, false, false, false] ?_
      refine tK 11 (some 32) #[true, true, true, true, true, true, true, true, true, true, true, true, true, false, false, false, false] ?_
      refine pU 13 (some 34) #[true, true, true, true, true, true, true, true, true, true, true, true, true, true, false, false, false] ?_
      refine pU 14 (some 35) #[true, true, true, true, true, true, true, true, true, true, true, true, true, true, true, false, false] ?_
      refine one_ (i := 15) (N := some 9) #[true, true, true, true, true, true, true, true, true, true, true, true, true, true, true, true, false] rfl rfl (one_of HT_.out (by kernel_rfl)) (by decide) (fun K hK => ?_)
      refine box_step ?hg (N := 9) ?hd (cs := #[.int .i64 0, .int .i64 0]) (t := 124) ?hr ?_; (case hd => rfl); (case hg => rfl); (case hr => first | (go_simp; done) | (go_simp; rfl))
      intro gb404 hg w15 hbox hb
      have BK404 := Aside0.mk (hbox)
      have GW404 := gE hg
      have GE404 := gE hg
      replace HO_7 := Aside0.mk (Kd.R_below (Kd.R_elderB (rS HO_7) gb404 (Nat.le_of_eq hg.symm)) hb)
      replace HB := hB hb
      clear hb hg
      refine hK.out _ _ ⟨(cB HB hw402_0), (cB HB hw402_1), (cB HB hw403_0), (cB HB hw403_1)⟩ (fun hHeld => ?_)
      clear hK K
      refine norm_ (a' := ?_) ?_ ?_
      rotate_left
      ·show Act.put _ (some 9) _ = _
       simp only [Act.put, List.setIfInBounds_toArray, List.set_cons_zero, List.set_cons_succ, i64_w, i32_w]
       rfl
      refine one_ (i := 16) (N := none) #[true, true, true, true, true, true, true, true, true, true, true, true, true, true, true, true, true] rfl rfl (one_of HT_.out (by kernel_rfl)) (by decide) (fun K hK => ?_)
      have hs16 : w15.cell? ⟨gb404, 0, none⟩ = some (.int .i64 0) := (blk_cell BK404.out 0).trans rfl
      have hfs16 := blk_frozen BK404.out 0
      have hs17 : w15.cell? ⟨gb404, 1, none⟩ = some (.int .i64 0) := (blk_cell BK404.out 1).trans rfl
      have hfs17 := blk_frozen BK404.out 1
      refine skip_ (w1 := ?_) (by rfl) rfl ?_ ?_
      rotate_left
      ·go_simp
       rfl
      refine hK.out _ _ ⟨((cell_far (p := ⟨gb404, _, none⟩) (nA hw402_0 GW404) _).trans (((cell_far (p := ⟨gb404, _, none⟩) (nA hw402_0 GW404) _).trans (hHeld.1)))), ((cell_far (p := ⟨gb404, _, none⟩) (nA hw402_1 GW404) _).trans (((cell_far (p := ⟨gb404, _, none⟩) (nA hw402_1 GW404) _).trans (hHeld.2.1)))), ((cell_far (p := ⟨gb404, _, none⟩) (nA hw403_0 GW404) _).trans (((cell_far (p := ⟨gb404, _, none⟩) (nA hw403_0 GW404) _).trans (hHeld.2.2.1)))), ((cell_far (p := ⟨gb404, _, none⟩) (nA hw403_1 GW404) _).trans (((cell_far (p := ⟨gb404, _, none⟩) (nA hw403_1 GW404) _).trans (hHeld.2.2.2))))⟩ (fun hHeld => ?_)
      clear hK K
      refine done_ (done_of HT_.out (by kernel_rfl)) ?_
      have hz18 := cz2 BK404
      try go_wp2_with (first | ((with_reducible refine gate_builtin (b := .append) (xs := #[.tmp 41, .tmp 43]) rfl ?_); at_builtin; refine Kd.R_append k124 (w0 := w) w.heap.size rfl (.tmp 41) (.tmp 43) 40 124 (.agg #[(.int .i64 0), (.int .i64 0)]) 16 rfl Try.underlying40 info124 rfl (by decide) (by omega) u7 x7_1 (⟨ji10, ji11⟩ : S124) [.int .i64 ji10, .int .i64 ji11] (fun k_ => k_ ≠ gb404) (fun _ => False) rfl (by first | (go_simp; done) | (go_simp; rfl)) ?aP (fun _ hk => hk.elim) ?aF ?aO ?aB ?aS ?aL ?_; (case aP => exact k124_mkM _ _ _ (⟨ji10, ji11⟩ : S124)); (case aB => exact bS); (case aF => exact (fun k_ hk => Kd.freshB (g := gb404) (o := .cells #[.int .i64 ji10, .int .i64 ji11] 124 (0, 0)) kS k_ hk)); (case aO => exact (by exact rT (Kd.R_mono (Kd.R_far (p := ⟨gb404, 1, none⟩) (Kd.R_far (p := ⟨gb404, 0, none⟩) (Kd.R_mono HO_7.out (fun k_ hk => (⟨hk, hk.2⟩ : _ ∧ k_ ≠ gb404))) (fun _ hk => hk.2) (.int .i64 ji10)) (fun _ hk => hk.2) (.int .i64 ji11)) (fun _ hk => hk.1.2)))); (case aS => exact (below_size bS)); (case aL => have := LMc13.out; omega); intro v406 w19 ho hb hg hat; rw [← Ny405.out] at ho; have HO407 := Aside0.mk (ho); replace BK404 := Aside0.mk (blk_grown (g := gb404) (o := .cells #[.int .i64 ji10, .int .i64 ji11] 124 (0, 0)) kS hg (Kd.R_away HO_7.out (fun _ hk => hk.2))); replace HB := Aside0.mk (hb); clear HO_7; clear ho hb hg hat))
      go_roundg k1
      case measure => have := HK1.out; omega
      case rel => exact ⟨(y405), (wrap64 (x8_1 + 1)), fS, H', ⟨by have := HK1.out; omega⟩, ⟨by exact rT (Kd.R_mono HO407.out (fun _ hk => trivial))⟩, ⟨bS⟩⟩
     ·have H' := Aside0.mk H
      clear H
      try go_wp2
      replace HO_7 := Aside0.mk (Kd.R_drew HO_7.out)
      replace HB := Aside0.mk (below_drew1 HB.out)
      have p402 : 0 ≤ (x8_1 : Int) := dA
      have q402 : x8_1 < (l0.length : Int) := dA
      obtain ⟨ad402, e402, hx402_0, hx402_1⟩ := at_T124 HR0.out x8_1 p402 q402
      have hw402_1 := hx402_1
      have hw402_0 := hx402_0
      cases e402
      replace hx402_0 := cB HB hx402_0
      replace hx402_1 := cB HB hx402_1
      replace p402 := eq_true p402
      replace q402 := eq_true q402
      have p403 : 0 ≤ (x8_1 : Int) := dA
      have q403 : x8_1 < (l0.length : Int) := dA
      obtain ⟨ad403, e403, hx403_0, hx403_1⟩ := at_T124 HR0.out x8_1 p403 q403
      have hw403_1 := hx403_1
      have hw403_0 := hx403_0
      obtain rfl : ad402 = ad403 := (by injection e403)
      replace hx403_0 := cB HB hx403_0
      replace hx403_1 := cB HB hx403_1
      replace p403 := eq_true p403
      replace q403 := eq_true q403
      refine start_ (n := 17) (S := fun w' => w'.cell? (ad402.add ((x8_1).toNat * 2)) = some (.int .i64 ((rd_T124 l0 x8_1).f0)) ∧ w'.cell? ⟨(ad402.add ((x8_1).toNat * 2)).block, (ad402.add ((x8_1).toNat * 2)).off + 1, none⟩ = some (.int .i64 ((rd_T124 l0 x8_1).f1)) ∧ w'.cell? (ad402.add ((x8_1).toNat * 2)) = some (.int .i64 ((rd_T124 l0 x8_1).f0)) ∧ w'.cell? ⟨(ad402.add ((x8_1).toNat * 2)).block, (ad402.add ((x8_1).toNat * 2)).off + 1, none⟩ = some (.int .i64 ((rd_T124 l0 x8_1).f1))) (ds := []) #[false, false, false, false, false, false, false, false, false, false, false, false, false, false, false, false, false] (by kernel_rfl) rfl rfl ⟨(cB HB hw402_0), (cB HB hw402_1), (cB HB hw403_0), (cB HB hw403_1)⟩ (fun hHeld => ?_); refine with_tabW spec_MeetSpans.tab7 spec_MeetSpans.bits7 (fun HT_ HW_ => ?_)
      generalize wr.drew = w20 at HO_7 HB hx402_0 hx402_1 hx403_0 hx403_1 hHeld ⊢
      refine pU 0 (some 21) #[true, false, false, false, false, false, false, false, false, false, false, false, false, false, false, false, false] ?_
      refine pU 1 (some 22) #[true, true, false, false, false, false, false, false, false, false, false, false, false, false, false, false, false] ?_
      refine pU 2 (some 23) #[true, true, true, false, false, false, false, false, false, false, false, false, false, false, false, false, false] ?_
      refine pU 3 (some 24) #[true, true, true, true, false, false, false, false, false, false, false, false, false, false, false, false, false] ?_
      refine pU 5 (some 26) #[true, true, true, true, false, true, false, false, false, false, false, false, false, false, false, false, false] ?_
      refine pU 7 (some 28) #[true, true, true, true, false, true, false, true, false, false, false, false, false, false, false, false, false] ?_
      refine pU 8 (some 29) #[true, true, true, true, false, true, false, true, true, false, false, false, false, false, false, false, false] ?_
      refine pU 9 (some 30) #[true, true, true, true, false, true, false, true, true, true, false, false, false, false, false, false, false] ?_
      refine pU 10 (some 31) #[true, true, true, true, false, true, false, true, true, true, true, false, false, false, false, false, false] ?_
      refine pU 12 (some 33) #[true, true, true, true, false, true, false, true, true, true, true, false, true, false, false, false, false] ?_
      refine tK 4 (some 25) #[true, true, true, true, true, true, false, true, true, true, true, false, true, false, false, false, false] ?_
      refine pU 6 (some 27) #[true, true, true, true, true, true, true, true, true, true, true, false, true, false, false, false, false] ?_
      refine tK 11 (some 32) #[true, true, true, true, true, true, true, true, true, true, true, true, true, false, false, false, false] ?_
      refine pU 13 (some 34) #[true, true, true, true, true, true, true, true, true, true, true, true, true, true, false, false, false] ?_
      refine pU 14 (some 35) #[true, true, true, true, true, true, true, true, true, true, true, true, true, true, true, false, false] ?_
      refine one_ (i := 15) (N := some 9) #[true, true, true, true, true, true, true, true, true, true, true, true, true, true, true, true, false] rfl rfl (one_of HT_.out (by kernel_rfl)) (by decide) (fun K hK => ?_)
      refine box_step ?hg (N := 9) ?hd (cs := #[.int .i64 0, .int .i64 0]) (t := 124) ?hr ?_; (case hd => rfl); (case hg => rfl); (case hr => first | (go_simp; done) | (go_simp; rfl))
      intro gb404 hg w21 hbox hb
      have BK404 := Aside0.mk (hbox)
      have GW404 := gE hg
      have GE404 := gE hg
      replace HO_7 := Aside0.mk (Kd.R_below (Kd.R_elderB (rS HO_7) gb404 (Nat.le_of_eq hg.symm)) hb)
      replace HB := hB hb
      clear hb hg
      refine hK.out _ _ ⟨(cB HB hw402_0), (cB HB hw402_1), (cB HB hw403_0), (cB HB hw403_1)⟩ (fun hHeld => ?_)
      clear hK K
      refine norm_ (a' := ?_) ?_ ?_
      rotate_left
      ·show Act.put _ (some 9) _ = _
       simp only [Act.put, List.setIfInBounds_toArray, List.set_cons_zero, List.set_cons_succ, i64_w, i32_w]
       rfl
      refine one_ (i := 16) (N := none) #[true, true, true, true, true, true, true, true, true, true, true, true, true, true, true, true, true] rfl rfl (one_of HT_.out (by kernel_rfl)) (by decide) (fun K hK => ?_)
      have hs22 : w21.cell? ⟨gb404, 0, none⟩ = some (.int .i64 0) := (blk_cell BK404.out 0).trans rfl
      have hfs22 := blk_frozen BK404.out 0
      have hs23 : w21.cell? ⟨gb404, 1, none⟩ = some (.int .i64 0) := (blk_cell BK404.out 1).trans rfl
      have hfs23 := blk_frozen BK404.out 1
      refine skip_ (w1 := ?_) (by rfl) rfl ?_ ?_
      rotate_left
      ·go_simp
       rfl
      refine hK.out _ _ ⟨((cell_far (p := ⟨gb404, _, none⟩) (nA hw402_0 GW404) _).trans (((cell_far (p := ⟨gb404, _, none⟩) (nA hw402_0 GW404) _).trans (hHeld.1)))), ((cell_far (p := ⟨gb404, _, none⟩) (nA hw402_1 GW404) _).trans (((cell_far (p := ⟨gb404, _, none⟩) (nA hw402_1 GW404) _).trans (hHeld.2.1)))), ((cell_far (p := ⟨gb404, _, none⟩) (nA hw403_0 GW404) _).trans (((cell_far (p := ⟨gb404, _, none⟩) (nA hw403_0 GW404) _).trans (hHeld.2.2.1)))), ((cell_far (p := ⟨gb404, _, none⟩) (nA hw403_1 GW404) _).trans (((cell_far (p := ⟨gb404, _, none⟩) (nA hw403_1 GW404) _).trans (hHeld.2.2.2))))⟩ (fun hHeld => ?_)
      clear hK K
      refine done_ (done_of HT_.out (by kernel_rfl)) ?_
      have hz24 := cz2 BK404
      try go_wp2
      go_roundg k1
      case measure => have := HK1.out; omega
      case rel => exact ⟨(x7_1), (wrap64 (x8_1 + 1)), fS, H', ⟨by have := HK1.out; omega⟩, ⟨by exact rT (Kd.R_mono (Kd.R_far (p := ⟨gb404, 1, none⟩) (Kd.R_far (p := ⟨gb404, 0, none⟩) (Kd.R_mono HO_7.out (fun k_ hk => (⟨hk, hk.2⟩ : _ ∧ k_ ≠ gb404))) (fun _ hk => hk.2) (.int .i64 ji10)) (fun _ hk => hk.2) (.int .i64 ji11)) (fun _ hk => trivial))⟩, ⟨bS⟩⟩
    ·obtain rfl := Option.some.inj H
     go_wp2
     go_ret
     exact ⟨_, eS, rS HO_7, bS⟩
 ·obtain rfl := Bool.eq_false_iff.mpr c5
  rw [if_neg nF] at H
  obtain rfl := Option.some.inj H
  go_enter Try.func83, Try.ntmps83
  go_wp2_with (first | ((with_reducible refine gate_dst (N := 10) rfl ?_); refine Kd.R_lit k124 _ 124 ?hg (N := 10) ?hd (xs := ([] : List (S124))) (inner := []) (ok := fun _ => True) (okp := fun _ => True) ?hr ?hp (fun _ hk => hk) trivial (Below.refl _ _) (Nat.le_refl _) (by simp) ?_; (case hd => rfl); (case hg => rfl); (case hr => first | (go_simp; done) | (go_simp; rfl)); (case hp => exact (Reps.none _ _)); intro v399 w25 ho26 hb hg_ hnew_; clear hg_ hnew_; (first | rw [← Ny398.out] at ho26 | (simp only [Int.reduceToNat] at ho26; rw [← Ny398.out] at ho26)); have HO400 := Aside0.mk (Kd.R_lower ho26 (below_size bS)); replace HB := hB hb; clear hb ho26) | ((with_reducible refine gC 146 ?_); refine cL (some 12) Try.func146 #[.slice A0 l0.length c0] ?_; (with_reducible refine (spec_SpansOk.calls k _ _ l0 _ _ (cS (Kd.C_below HR0.out HB.out)) HC0.out A4.out).mono ?_); rintro e w' ⟨rfl, ⟨nd, rfl⟩⟩; refine ⟨_, rfl, ?_⟩))
  go_ret
  exact ⟨_, eS, rS HO400, bS⟩

/-! ### spec_l08Crosses: function 187 -/
def spec_l08Crosses.f (a0_0 : Int) (a0_1 : Int) (a1_0 : Int) (a1_1 : Int) (a2 : Int) (a3 : Int) : Option (Bool) := if ((decide ((wrap64 (2 * a0_1)) > (wrap64 ((wrap64 (2 * a3)) + 1)))) == (decide ((wrap64 (2 * a1_1)) > (wrap64 ((wrap64 (2 * a3)) + 1))))) = true then (some false) else (if a0_1 > a1_1 then (some (decide ((wrap64 ((wrap64 ((wrap64 ((wrap64 ((wrap64 (2 * a2)) + 1)) - (wrap64 (2 * a1_0)))) * 2)) * (wrap64 (a0_1 - a1_1)))) < (wrap64 ((wrap64 ((wrap64 ((wrap64 ((wrap64 (2 * a3)) + 1)) - (wrap64 (2 * a1_1)))) * 2)) * (wrap64 (a0_0 - a1_0))))))) else (some (decide ((wrap64 ((wrap64 ((wrap64 ((wrap64 ((wrap64 (2 * a2)) + 1)) - (wrap64 (2 * a0_0)))) * 2)) * (wrap64 (a1_1 - a0_1)))) < (wrap64 ((wrap64 ((wrap64 ((wrap64 ((wrap64 (2 * a3)) + 1)) - (wrap64 (2 * a0_1)))) * 2)) * (wrap64 (a1_0 - a0_0))))))))
theorem spec_l08Crosses.lf0 {p : Prop} (h : p := by
 go_enter Try.func187, Try.ntmps187
 go_wp2_with (first | ((with_reducible refine gD 4 ?_); refine bxE #[.int .i64 a0_0, .int .i64 a0_1] 171 ?_; intro gb408 hg w12 BK408 hb; have GW408 := gE hg; have GE408 := gE hg; replace HB := hB hb; clear hb hg) | ((with_reducible refine gD 5 ?_); refine bxE #[.int .i64 a1_0, .int .i64 a1_1] 171 ?_; intro gb409 hg w13 BK409 hb; have GW409 := gE hg; have GE409 := gE hg; have NB408_409 := nL (g := gb408) hg; have NB409_408 := nG (g := gb408) hg; replace BK408 := kB (g := gb408) hb; replace HB := hB hb; clear hb hg; have hnb14 := NB408_409.out; have hnc14 := NB409_408.out; have hz15 := cz2 BK408; have hz16 := cz2 BK409))
 go_ret
 exact ⟨eS, bS⟩) : p := h
theorem spec_l08Crosses.calls (a0_0 : Int) (a0_1 : Int) (a1_0 : Int) (a1_1 : Int) (a2 : Int) (a3 : Int) (r : Bool) (w : World) (h : spec_l08Crosses.f a0_0 a0_1 a1_0 a1_1 a2 a3 = some r) :
  Calls Try.prog 187 #[.agg #[.int .i64 a0_0, .int .i64 a0_1], .agg #[.int .i64 a1_0, .int .i64 a1_1], .int .i64 a2, .int .i64 a3] w fun e w' => e = .returned (.bool r) ∧ Below w.heap.size w w' := by
 have hu171 := Try.underlying171
 have HB := Aside0.mk (Below.refl w.heap.size w)
 have H : (if ((decide ((wrap64 (2 * a0_1)) > (wrap64 ((wrap64 (2 * a3)) + 1)))) == (decide ((wrap64 (2 * a1_1)) > (wrap64 ((wrap64 (2 * a3)) + 1))))) = true then (some false) else (if a0_1 > a1_1 then (some (decide ((wrap64 ((wrap64 ((wrap64 ((wrap64 ((wrap64 (2 * a2)) + 1)) - (wrap64 (2 * a1_0)))) * 2)) * (wrap64 (a0_1 - a1_1)))) < (wrap64 ((wrap64 ((wrap64 ((wrap64 ((wrap64 (2 * a3)) + 1)) - (wrap64 (2 * a1_1)))) * 2)) * (wrap64 (a0_0 - a1_0))))))) else (some (decide ((wrap64 ((wrap64 ((wrap64 ((wrap64 ((wrap64 (2 * a2)) + 1)) - (wrap64 (2 * a0_0)))) * 2)) * (wrap64 (a1_1 - a0_1)))) < (wrap64 ((wrap64 ((wrap64 ((wrap64 ((wrap64 (2 * a3)) + 1)) - (wrap64 (2 * a0_1)))) * 2)) * (wrap64 (a1_0 - a0_0))))))))) = some r := h
 clear h
 by_cases c5 : ((decide ((wrap64 (2 * a0_1)) > (wrap64 ((wrap64 (2 * a3)) + 1)))) == (decide ((wrap64 (2 * a1_1)) > (wrap64 ((wrap64 (2 * a3)) + 1))))) = true
 ·rw [if_pos c5] at H
  have c5b0 : ((decide ((wrap64 (2 * a0_1)) > (wrap64 ((wrap64 (2 * a3)) + 1)))) == (decide ((wrap64 (2 * a1_1)) > (wrap64 ((wrap64 (2 * a3)) + 1))))) = true := c5
  (try (have c5b1 : decide ((decide ((wrap64 (2 * a0_1)) > (wrap64 ((wrap64 (2 * a3)) + 1)))) = (decide ((wrap64 (2 * a1_1)) > (wrap64 ((wrap64 (2 * a3)) + 1))))) = true := by simpa using c5))
  (try (have c5b2 : ((decide ((wrap64 (2 * a0_1)) > (wrap64 ((wrap64 (2 * a3)) + 1)))) == (decide ((wrap64 (2 * a1_1)) > (wrap64 ((wrap64 (2 * a3)) + 1))))) = true := by simpa using c5))
  clear c5
  obtain rfl := Option.some.inj H
  exact spec_l08Crosses.lf0
 ·rw [if_neg c5] at H
  have c5b0 : ((decide ((wrap64 (2 * a0_1)) > (wrap64 ((wrap64 (2 * a3)) + 1)))) == (decide ((wrap64 (2 * a1_1)) > (wrap64 ((wrap64 (2 * a3)) + 1))))) = false := by simpa using c5
  (try (have c5b1 : decide ((decide ((wrap64 (2 * a0_1)) > (wrap64 ((wrap64 (2 * a3)) + 1)))) = (decide ((wrap64 (2 * a1_1)) > (wrap64 ((wrap64 (2 * a3)) + 1))))) = false := by simpa using c5))
  (try (have c5b2 : ((decide ((wrap64 (2 * a0_1)) > (wrap64 ((wrap64 (2 * a3)) + 1)))) == (decide ((wrap64 (2 * a1_1)) > (wrap64 ((wrap64 (2 * a3)) + 1))))) = false := by simpa using c5))
  (try (have c5b3 : ¬ ((decide ((wrap64 (2 * a0_1)) > (wrap64 ((wrap64 (2 * a3)) + 1)))) = (decide ((wrap64 (2 * a1_1)) > (wrap64 ((wrap64 (2 * a3)) + 1))))) := by simpa using c5))
  clear c5
  by_cases c11 : a0_1 > a1_1
  ·rw [if_pos c11] at H
   have c11b0 : decide (a1_1 < a0_1) = true := decide_eq_true c11
   clear c11
   obtain rfl := Option.some.inj H
   exact spec_l08Crosses.lf0
  ·rw [if_neg c11] at H
   have c11b0 : decide (a1_1 < a0_1) = false := decide_eq_false c11
   clear c11
   obtain rfl := Option.some.inj H
   exact spec_l08Crosses.lf0

end Go.Proofs.Ytigodjcnkgebaaa.QFnExactRenderBands
