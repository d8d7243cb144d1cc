-- Made out of the translation by a program of this session (a changed copy of the print). Not trusted: Lean checks it.
import Derived.Test.YtimpejidlnjhlaaQFnPageDotsx0
import Derived.Test.YtimpejidlnjhlaaQFnPageDotsx1
import Derived.Test.YtimpejidlnjhlaaQFnPageDotsx2
import Derived.Test.YtimpejidlnjhlaaQFnPageDotsx8
namespace Go.Proofs.Ytimpejidlnjhlaa.QFnPageDots
open Go.RowKit Go.Proofs.YtimpejidlnjhlaaW.PrintWords Go.Proofs.YtimpejidlnjhlaaW.PrintLast Go.Proofs.YtimpejidlnjhlaaW.PrintMore
attribute [local go_sem] max2_int min2_int max_two min_two max_three min_three max_four min_four   -- for this text's walks alone
set_option linter.unusedVariables false
set_option linter.unusedSimpArgs false
set_option maxHeartbeats 8000000
set_option maxRecDepth 100000

/-! ### laws_FnPageDots: function 8 -/
def laws_FnPageDots.j0 : Nat → List (List Int) → Bool → List (S166) → Int → Int → Int → Int → Int → Option (Bool)
 | 0, _, _, _, _, _, _, _, _ => none
 | k + 1, x4, x34, x388000, x388001, x388002, x388003, x388004, x388005 => if x34 = true then (some false) else (if x388001 = 255 then (some true) else ((impl_CountValue.f k x4 x388001).bind fun t400 => ((impl_ObjectDots.f k x388000 x388001 x388002 x388003 x388004 x388005).bind fun t401 => (some (t400 == t401)))))
def laws_FnPageDots.f (k : Nat) (l0 : List Int) : Option (Bool) := (laws_big.f l0).bind fun t378 => (if t378 = true then (some true) else ((spec_DrawObject.f k l0).bind fun bt379 => ((impl_PaintAll.f k (([(⟨bt379.1, bt379.2.1, (⟨bt379.2.2.1, bt379.2.2.2.1, bt379.2.2.2.2.1, bt379.2.2.2.2.2⟩ : S39)⟩ : S41)] : List (S41)))).bind fun bt391 => ((impl_WhiteRows.f k 32).bind fun t395 => (if bt391.2 = true then ((impl_RowsOk.f k bt391.1).bind fun t398 => (if t398 = true then (if (bt391.1.length : Int) = 32 then ((impl_CountValue.f k t395 255).bind fun t399 => (laws_FnPageDots.j0 k bt391.1 (t399 != 1024) bt379.1 bt379.2.1 bt379.2.2.1 bt379.2.2.2.1 bt379.2.2.2.2.1 bt379.2.2.2.2.2)) else (laws_FnPageDots.j0 k bt391.1 true bt379.1 bt379.2.1 bt379.2.2.1 bt379.2.2.2.1 bt379.2.2.2.2.1 bt379.2.2.2.2.2)) else (laws_FnPageDots.j0 k bt391.1 true bt379.1 bt379.2.1 bt379.2.2.1 bt379.2.2.2.1 bt379.2.2.2.2.1 bt379.2.2.2.2.2))) else (laws_FnPageDots.j0 k bt391.1 true bt379.1 bt379.2.1 bt379.2.2.1 bt379.2.2.2.1 bt379.2.2.2.2.1 bt379.2.2.2.2.2))))))
def laws_FnPageDots.T8 : Bool × List (List Nat × List Nat) := (true, [([], []), ([0], [0]), ([1], [1]), ([2], [2]), ([3], [3]), ([3], [3]), ([5, 3], [3, 5]), ([4, 6, 3, 3], [3, 4, 6]), ([3], [3]), ([8, 7, 3], [3, 8]), ([7, 9, 3], [3, 7, 9]), ([3, 10], [3, 10]), ([11, 9, 0, 1, 2, 3, 4, 5, 6, 7, 8, 9, 10, 11], [11])])
def laws_FnPageDots.B8 : List Nat := [0, 1, 3, 7, 15, 15, 47, 127, 15, 511, 1023, 2047, 4095]
theorem laws_FnPageDots.tab8 : rtab .any (opsOf Try.f8 8) = laws_FnPageDots.T8 := by kernel_rfl
theorem laws_FnPageDots.bits8 : waitsOk laws_FnPageDots.T8.2 laws_FnPageDots.B8 = true := by kernel_rfl
theorem laws_FnPageDots.calls (k : Nat) (A0 : Option Addr) (c0 : Nat) (l0 : List Int) (r : Bool) (w : World) (hr0 : Kd.C (Kd.int .u8) w A0 l0.length l0) (hc0 : l0.length ≤ c0) (h : laws_FnPageDots.f k l0 = some r) (hT : r = true) :
  Calls Try.prog 8 #[.slice A0 l0.length c0] w fun e w' => e = .returned (.bool r) ∧ Below w.heap.size w w' := by
 have hu41 := Try.underlying41
 have HR0 := Aside0.mk hr0
 have HC0 := Aside0.mk hc0
 clear hr0 hc0
 have HB := Aside0.mk (Below.refl w.heap.size w)
 have H : ((laws_big.f l0).bind fun t378 => (if t378 = true then (some true) else ((spec_DrawObject.f k l0).bind fun bt379 => ((impl_PaintAll.f k (([(⟨bt379.1, bt379.2.1, (⟨bt379.2.2.1, bt379.2.2.2.1, bt379.2.2.2.2.1, bt379.2.2.2.2.2⟩ : S39)⟩ : S41)] : List (S41)))).bind fun bt391 => ((impl_WhiteRows.f k 32).bind fun t395 => (if bt391.2 = true then ((impl_RowsOk.f k bt391.1).bind fun t398 => (if t398 = true then (if (bt391.1.length : Int) = 32 then ((impl_CountValue.f k t395 255).bind fun t399 => (laws_FnPageDots.j0 k bt391.1 (t399 != 1024) bt379.1 bt379.2.1 bt379.2.2.1 bt379.2.2.2.1 bt379.2.2.2.2.1 bt379.2.2.2.2.2)) else (laws_FnPageDots.j0 k bt391.1 true bt379.1 bt379.2.1 bt379.2.2.1 bt379.2.2.2.1 bt379.2.2.2.2.1 bt379.2.2.2.2.2)) else (laws_FnPageDots.j0 k bt391.1 true bt379.1 bt379.2.1 bt379.2.2.1 bt379.2.2.2.1 bt379.2.2.2.2.1 bt379.2.2.2.2.2))) else (laws_FnPageDots.j0 k bt391.1 true bt379.1 bt379.2.1 bt379.2.2.1 bt379.2.2.2.1 bt379.2.2.2.2.1 bt379.2.2.2.2.2))))))) = some r := h
 clear h
 replace H := bN H
 obtain ⟨t378, A2, H⟩ := H
 by_cases c3 : t378 = true
 ·subst c3
  rw [if_pos rfl] at H
  obtain rfl := Option.some.inj H
  (try clear hT)
  go_enter Try.func8, Try.ntmps8
  go_wp2_with (first | ((with_reducible refine gC 24 ?_); refine cL (some 8) Try.func24 #[.slice A0 l0.length c0] ?_; (with_reducible refine (laws_big.calls _ _ l0 _ _ ?side1 ?side2 A2.out).mono ?_); (case side1 => repeat (first | exact HR0.out | (with_reducible refine Kd.C_alloc ?_ _) | (with_reducible refine Kd.C_drewN ?_ _) | (with_reducible refine Kd.C_drew ?_))); (case side2 => exact HC0.out); rintro e w' ⟨rfl, ⟨nd, rfl⟩⟩; refine ⟨_, rfl, ?_⟩))
  go_ret
  exact ⟨eS, bS⟩
 ·obtain rfl := Bool.eq_false_iff.mpr c3
  rw [if_neg nF] at H
  replace H := bN H
  obtain ⟨⟨t379, t382, t383, t384, t385, t386⟩, A4, H⟩ := H
  obtain ⟨y388, hy388⟩ : ∃ y_ : List (S41), y_ = (([(⟨t379, t382, (⟨t383, t384, t385, t386⟩ : S39)⟩ : S41)] : List (S41))) := ⟨_, rfl⟩
  replace H : ((impl_PaintAll.f k y388).bind fun bt391 => ((impl_WhiteRows.f k 32).bind fun t395 => (if bt391.2 = true then ((impl_RowsOk.f k bt391.1).bind fun t398 => (if t398 = true then (if (bt391.1.length : Int) = 32 then ((impl_CountValue.f k t395 255).bind fun t399 => (laws_FnPageDots.j0 k bt391.1 (t399 != 1024) t379 t382 t383 t384 t385 t386)) else (laws_FnPageDots.j0 k bt391.1 true t379 t382 t383 t384 t385 t386)) else (laws_FnPageDots.j0 k bt391.1 true t379 t382 t383 t384 t385 t386))) else (laws_FnPageDots.j0 k bt391.1 true t379 t382 t383 t384 t385 t386)))) = some r := by first | (rw [hy388]; with_reducible exact H) | (have H2_ := (Option.bind_some _ _).symm.trans H; rw [hy388]; with_reducible exact H2_) | (have H2_ := (Option.bind_some _ _).symm.trans H; with_reducible exact H2_) | with_reducible exact H | (rw [hy388]; exact H) | exact H
  have Ny388 := Aside0.mk hy388
  clear hy388
  replace H := bN H
  obtain ⟨⟨t391, t392⟩, A5, H⟩ := H
  replace H := bN H
  obtain ⟨t395, A6, H⟩ := H
  have HC7 := Aside0.mk H
  clear H
  go_enter Try.func8, Try.ntmps8
  go_upto_region 6 with (first | ((with_reducible refine gC 24 ?_); refine cL (some 8) Try.func24 #[.slice A0 l0.length c0] ?_; (with_reducible refine (laws_big.calls _ _ l0 _ _ ?side1 ?side2 A2.out).mono ?_); (case side1 => repeat (first | exact HR0.out | (with_reducible refine Kd.C_alloc ?_ _) | (with_reducible refine Kd.C_drewN ?_ _) | (with_reducible refine Kd.C_drew ?_))); (case side2 => exact HC0.out); rintro e w' ⟨rfl, ⟨nd, rfl⟩⟩; refine ⟨_, rfl, ?_⟩) | ((with_reducible refine gC 25 ?_); refine cL (some 10) Try.func25 #[.slice A0 l0.length c0] ?_; (with_reducible refine (spec_DrawObject.calls k _ _ l0 t379 t382 t383 t384 t385 t386 _ ?side1 ?side2 A4.out).mono ?_); (case side1 => repeat (first | exact HR0.out | (with_reducible refine Kd.C_alloc ?_ _) | (with_reducible refine Kd.C_drewN ?_ _) | (with_reducible refine Kd.C_drew ?_))); (case side2 => exact HC0.out); rintro e w8 ⟨v380, rfl, ho0, hb⟩; refine ⟨_, rfl, ?_⟩; have HO381 := Aside0.mk (Kd.R_lower ho0 (below_size bS)); replace HB := hB hb; (try clear hb); (try clear hb2); (try clear hk); (try clear hi); (try clear ho0)) | ((with_reducible refine gD 3 ?_); refine bxE #[.slice none 0 0, .int .i64 0, .int .i64 0, .int .i64 0, .int .i64 0, .int .i64 0] 41 ?_; intro gb387 hg w9 BK387 hb; have GW387 := gE hg; have GE387 := gE hg; replace HO381 := Aside0.mk (Kd.R_below (rS HO381) hb); replace HB := hB hb; clear hb hg; obtain ⟨Ao10, co10, eo10⟩ := Kd.R_slice HO381.out; subst eo10; have hcz11_0 : w9.cell? ⟨gb387, 0, none⟩ = some (.slice none 0 0) := (blk_cell BK387.out 0).trans rfl; have hcz11_1 : w9.cell? ⟨gb387, 1, none⟩ = some (.int .i64 0) := (blk_cell BK387.out 1).trans rfl; have hcz11_2 : w9.cell? ⟨gb387, 2, none⟩ = some (.int .i64 0) := (blk_cell BK387.out 2).trans rfl; have hcz11_3 : w9.cell? ⟨gb387, 3, none⟩ = some (.int .i64 0) := (blk_cell BK387.out 3).trans rfl; have hcz11_4 : w9.cell? ⟨gb387, 4, none⟩ = some (.int .i64 0) := (blk_cell BK387.out 4).trans rfl; have hcz11_5 : w9.cell? ⟨gb387, 5, none⟩ = some (.int .i64 0) := (blk_cell BK387.out 5).trans rfl; have hfz11_0 := blk_frozen BK387.out 0; have hfz11_1 := blk_frozen BK387.out 1; have hfz11_2 := blk_frozen BK387.out 2; have hfz11_3 := blk_frozen BK387.out 3; have hfz11_4 := blk_frozen BK387.out 4; have hfz11_5 := blk_frozen BK387.out 5) | ((with_reducible refine gate_store (t := 41) (p := 3) rfl ?_); refine store_event (t := 41) (p := 3) (v := ?vo_w12) (w1 := ((((((w9.setCell ⟨gb387, 0, none⟩ (.slice Ao10 t379.length co10)).setCell ⟨gb387, 1, none⟩ (.int .i64 t382)).setCell ⟨gb387, 2, none⟩ (.int .i64 t383)).setCell ⟨gb387, 3, none⟩ (.int .i64 t384)).setCell ⟨gb387, 4, none⟩ (.int .i64 t385)).setCell ⟨gb387, 5, none⟩ (.int .i64 t386))) ?hg ?ho ?hn ?hr ?_; (case ho => rfl); (case hg => rfl); (case hn => rfl); (case hr => first | (go_simp; done) | (go_simp; rfl)); intro w12 hw; replace HO381 : Aside0 (Kd.R k166 166 w12 w.heap.size (fun _ => True) (.slice Ao10 t379.length co10) t379) := ⟨(by rw [hw]; exact (by exact rT (Kd.R_mono (Kd.R_far (p := ⟨gb387, 5, none⟩) (Kd.R_far (p := ⟨gb387, 4, none⟩) (Kd.R_far (p := ⟨gb387, 3, none⟩) (Kd.R_far (p := ⟨gb387, 2, none⟩) (Kd.R_far (p := ⟨gb387, 1, none⟩) (Kd.R_far (p := ⟨gb387, 0, none⟩) (Kd.R_types HO381.out BK387.out (by decide)) (fun _ hk => hk.2) (.slice Ao10 t379.length co10)) (fun _ hk => hk.2) (.int .i64 t382)) (fun _ hk => hk.2) (.int .i64 t383)) (fun _ hk => hk.2) (.int .i64 t384)) (fun _ hk => hk.2) (.int .i64 t385)) (fun _ hk => hk.2) (.int .i64 t386)) (fun _ hk => trivial))))⟩; replace BK387 : Aside0 (w12.heap[gb387]? = some (.cells #[.slice Ao10 t379.length co10, .int .i64 t382, .int .i64 t383, .int .i64 t384, .int .i64 t385, .int .i64 t386] 41 (0, 0))) := ⟨(by rw [hw]; exact kS)⟩; replace HB : Aside0 (Below w.heap.size w w12) := ⟨(by rw [hw]; exact bS)⟩; clear hw; have hcz13_0 : w12.cell? ⟨gb387, 0, none⟩ = some (.slice Ao10 t379.length co10) := (blk_cell BK387.out 0).trans rfl; have hcz13_1 : w12.cell? ⟨gb387, 1, none⟩ = some (.int .i64 t382) := (blk_cell BK387.out 1).trans rfl; have hcz13_2 : w12.cell? ⟨gb387, 2, none⟩ = some (.int .i64 t383) := (blk_cell BK387.out 2).trans rfl; have hcz13_3 : w12.cell? ⟨gb387, 3, none⟩ = some (.int .i64 t384) := (blk_cell BK387.out 3).trans rfl; have hcz13_4 : w12.cell? ⟨gb387, 4, none⟩ = some (.int .i64 t385) := (blk_cell BK387.out 4).trans rfl; have hcz13_5 : w12.cell? ⟨gb387, 5, none⟩ = some (.int .i64 t386) := (blk_cell BK387.out 5).trans rfl; have hfz13_0 := blk_frozen BK387.out 0; have hfz13_1 := blk_frozen BK387.out 1; have hfz13_2 := blk_frozen BK387.out 2; have hfz13_3 := blk_frozen BK387.out 3; have hfz13_4 := blk_frozen BK387.out 4; have hfz13_5 := blk_frozen BK387.out 5) | ((with_reducible refine gate_dst (N := 13) rfl ?_); (try (refine gG (by rfl) (by rfl) ?_; dsimp only)); refine Kd.N_lit k41 _ 41 ?hg (N' := 13) ?hd (xs := ([(⟨t379, t382, (⟨t383, t384, t385, t386⟩ : S39)⟩ : S41)] : List (S41))) (inner := [.slice Ao10 t379.length co10, .int .i64 t382, .int .i64 t383, .int .i64 t384, .int .i64 t385, .int .i64 t386]) (ok := (fun k_ => k_ ≠ gb387)) (okp := (fun k_ => k_ ≠ gb387)) ?hr ?hp (fun _ hk => hk) ((show ∀ k_, w12.heap.size ≤ k_ → (fun k_ => k_ ≠ gb387) k_ from fun k_ hk => Kd.freshB (g := gb387) kS k_ hk) _ (Nat.le_refl _)) (Below.refl _ _) (Nat.le_refl _) (by simp) ?_; (case hd => rfl); (case hg => rfl); (case hr => first | (go_simp; done) | (go_simp; rfl)); (case hp => exact (Reps.c6 (show Kd.FK k41 _ _ (⟨t379, t382, (⟨t383, t384, t385, t386⟩ : S39)⟩ : S41) [.slice Ao10 t379.length co10, .int .i64 t382, .int .i64 t383, .int .i64 t384, .int .i64 t385, .int .i64 t386] from (k41_mkF _ _ (⟨t379, t382, (⟨t383, t384, t385, t386⟩ : S39)⟩ : S41) (Kd.R_reads' (Kd.R_mono (ok' := (fun k_ => k_ ≠ gb387)) (Kd.R_types (HO381.out) BK387.out (by decide)) (fun k_ hk => hk.2))).2.1 (Kd.R_F (Kd.R_mono (ok' := (fun k_ => k_ ≠ gb387)) (Kd.R_types (HO381.out) BK387.out (by decide)) (fun k_ hk => hk.2))))) (Reps.none _ _))); intro v389 w14 ho15 hb hg_ hnew_; clear hg_ hnew_; (first | rw [← Ny388.out] at ho15 | (simp only [Int.reduceToNat] at ho15; rw [← Ny388.out] at ho15)); have HO390 := Aside0.mk (Kd.N_lower ho15 (below_size bS)); replace HO381 := Aside0.mk (Kd.R_below (rS HO381) hb); replace BK387 := kB (g := gb387) hb; replace HB := hB hb; clear hb ho15; obtain ⟨Ao16, co16, eo16⟩ := Kd.N_slice HO390.out; subst eo16) | ((with_reducible refine gC 52 ?_); refine cL (some 14) Try.func52 #[.slice Ao16 y388.length co16] ?_; (with_reducible refine (impl_PaintAll.calls k _ _ y388 t391 t392 _ ?side1 ?side2 A5.out).mono ?_); (case side1 => exact cS (Kd.N_reads' HO390.out).2.2); (case side2 => exact (Kd.N_reads' HO390.out).2.1); rintro e w17 ⟨v393, rfl, ho0, hb⟩; refine ⟨_, rfl, ?_⟩; have HO394 := Aside0.mk (Kd.N_lower (Kd.N_mono (ok' := fun k_ => some k_ ≠ (.slice Ao10 t379.length co10 : Value).ownBlock ∧ some k_ ≠ (.slice Ao16 y388.length co16 : Value).ownBlock ∧ k_ ≠ gb387) (Kd.S_N (Kd.S_bound ho0)) (fun k_ hk_ => ⟨(Kd.fresh' (Kd.R_lt (rS HO381)) k_ hk_.2.1), (Kd.fresh' (Kd.N_lt (nS HO390)) k_ hk_.2.1), (Kd.freshB (g := gb387) kS k_ hk_.2.1)⟩)) (below_size bS)); replace HO381 := Aside0.mk (Kd.R_below (rS HO381) hb); replace HO390 := Aside0.mk (Kd.N_elder' (nS HO390) (Kd.S_base ho0) hb); replace BK387 := kB (g := gb387) hb; replace HB := hB hb; (try clear hb); (try clear hb2); (try clear hk); (try clear hi); (try clear ho0)) | ((with_reducible refine gC 53 ?_); refine cL (some 17) Try.func53 #[.int .i64 32] ?_; (with_reducible refine (impl_WhiteRows.calls k 32 t395 _ A6.out).mono ?_); rintro e w18 ⟨v396, rfl, ho0, hb⟩; refine ⟨_, rfl, ?_⟩; have HO397 := Aside0.mk (Kd.N_lower (Kd.N_mono (ok' := fun k_ => some k_ ≠ (.slice Ao10 t379.length co10 : Value).ownBlock ∧ some k_ ≠ (.slice Ao16 y388.length co16 : Value).ownBlock ∧ some k_ ≠ (v393 : Value).ownBlock ∧ k_ ≠ gb387) (Kd.S_N (Kd.S_bound ho0)) (fun k_ hk_ => ⟨(Kd.fresh' (Kd.R_lt (rS HO381)) k_ hk_.2.1), (Kd.fresh' (Kd.N_lt (nS HO390)) k_ hk_.2.1), (Kd.fresh' (Kd.N_lt (nS HO394)) k_ hk_.2.1), (Kd.freshB (g := gb387) kS k_ hk_.2.1)⟩)) (below_size bS)); replace HO381 := Aside0.mk (Kd.R_below (rS HO381) hb); replace HO390 := Aside0.mk (Kd.N_elder' (nS HO390) (Kd.S_base ho0) hb); replace HO394 := Aside0.mk (Kd.N_elder' (nS HO394) (Kd.S_base ho0) hb); replace BK387 := kB (g := gb387) hb; replace HB := hB hb; (try clear hb); (try clear hb2); (try clear hk); (try clear hi); (try clear ho0)))
  (try simp only [Act.put, List.setIfInBounds_toArray, List.set_cons_zero, List.set_cons_succ])
  go_cut [34] (fun v34 wc => ∃ (kq : Nat) (x34_6 : Bool), v34 = .bool x34_6 ∧ Aside0 (laws_FnPageDots.j0 kq t391 x34_6 t379 t382 t383 t384 t385 t386 = some r) ∧ Aside0 (kq ≤ k) ∧ Aside0 (Kd.N (Kd.slice 3 (Kd.int .i64)) 22 wc w.heap.size (fun k_ => some k_ ≠ ((.slice Ao10 t379.length co10) : Value).ownBlock ∧ k_ ≠ gb387) v393 t391) ∧ Aside0 (Kd.R k166 166 wc w.heap.size (fun _ => True) (.slice Ao10 t379.length co10) t379) ∧ Aside0 (wc.heap[gb387]? = some (.cells #[(.slice Ao10 t379.length co10), .int .i64 t382, .int .i64 t383, .int .i64 t384, .int .i64 t385, .int .i64 t386] 41 (0, 0))) ∧ Aside0 (Below w.heap.size w wc))
  case first =>
   have H := HC7.out
   clear HC7
   by_cases c19 : t392 = true
   ·subst c19
    rw [if_pos rfl] at H
    replace H := bN H
    obtain ⟨t398, A20, H⟩ := H
    by_cases c21 : t398 = true
    ·subst c21
     rw [if_pos rfl] at H
     by_cases c22 : (t391.length : Int) = 32
     ·rw [if_pos c22] at H
      have c22b0 : ((t391.length : Int) == 32) = true := beq_iff_eq.mpr c22
      have c22b1 : ((t391.length : Int) != 32) = false := bne_eq_false_iff_eq.mpr c22
      clear c22
      (first | rw [c22b0] | (simp only [i64_w, i32_w]; rw [c22b0]) | skip)
      replace H := bN H
      obtain ⟨t399, A23, H⟩ := H
      have H' := Aside0.mk H
      clear H
      obtain ⟨Ao24, co24, eo24⟩ := Kd.N_slice HO394.out
      subst eo24
      go_wp2_with (first | (go_at_call 44; (with_reducible refine (impl_RowsOk.calls k _ _ t391 _ _ ?side1 ?side2 A20.out).mono ?_); (case side1 => exact cS (Kd.N_reads' HO394.out).2.2); (case side2 => exact (Kd.N_reads' HO394.out).2.1); rintro e w' ⟨rfl, ⟨nd, rfl⟩⟩; obtain ⟨Ao25, co25, eo25⟩ := Kd.N_slice HO397.out; subst eo25) | (go_at_call 54; (with_reducible refine (impl_CountValue.calls k _ _ t395 255 t399 _ ?side1 ?side2 A23.out).mono ?_); (case side1 => exact cS (Kd.N_reads' HO397.out).2.2); (case side2 => exact (Kd.N_reads' HO397.out).2.1); rintro e w' ⟨rfl, ⟨nd, rfl⟩⟩))
      go_meet
      case rel => exact ⟨_, ((t399 != 1024)), fS, H', ⟨by first | omega | exact Nat.le_refl _⟩, ⟨by exact nT (Kd.N_mono HO394.out (fun _ hk => ⟨hk.1.1, hk.1.2.2⟩))⟩, ⟨rS HO381⟩, ⟨kS⟩, ⟨bS⟩⟩
     ·rw [if_neg c22] at H
      have c22b0 : ((t391.length : Int) == 32) = false := beq_eq_false_iff_ne.mpr c22
      have c22b1 : ((t391.length : Int) != 32) = true := bne_iff_ne.mpr c22
      (first | rw [c22b0] | (simp only [i64_w, i32_w]; rw [c22b0]) | skip)
      have H' := Aside0.mk H
      clear H
      obtain ⟨Ao26, co26, eo26⟩ := Kd.N_slice HO394.out
      subst eo26
      go_wp2_with (first | (go_at_call 44; (with_reducible refine (impl_RowsOk.calls k _ _ t391 _ _ ?side1 ?side2 A20.out).mono ?_); (case side1 => exact cS (Kd.N_reads' HO394.out).2.2); (case side2 => exact (Kd.N_reads' HO394.out).2.1); rintro e w' ⟨rfl, ⟨nd, rfl⟩⟩))
      go_meet
      case rel => exact ⟨_, (true), fS, H', ⟨by first | omega | exact Nat.le_refl _⟩, ⟨by exact nT (Kd.N_mono HO394.out (fun _ hk => ⟨hk.1.1, hk.1.2.2⟩))⟩, ⟨rS HO381⟩, ⟨kS⟩, ⟨bS⟩⟩
    ·obtain rfl := Bool.eq_false_iff.mpr c21
     rw [if_neg nF] at H
     have H' := Aside0.mk H
     clear H
     obtain ⟨Ao27, co27, eo27⟩ := Kd.N_slice HO394.out
     subst eo27
     go_wp2_with (first | (go_at_call 44; (with_reducible refine (impl_RowsOk.calls k _ _ t391 _ _ ?side1 ?side2 A20.out).mono ?_); (case side1 => exact cS (Kd.N_reads' HO394.out).2.2); (case side2 => exact (Kd.N_reads' HO394.out).2.1); rintro e w' ⟨rfl, ⟨nd, rfl⟩⟩))
     go_meet
     case rel => exact ⟨_, (true), fS, H', ⟨by first | omega | exact Nat.le_refl _⟩, ⟨by exact nT (Kd.N_mono HO394.out (fun _ hk => ⟨hk.1.1, hk.1.2.2⟩))⟩, ⟨rS HO381⟩, ⟨kS⟩, ⟨bS⟩⟩
   ·obtain rfl := Bool.eq_false_iff.mpr c19
    rw [if_neg nF] at H
    have H' := Aside0.mk H
    clear H
    go_wp2
    go_meet
    case rel => exact ⟨_, (true), fS, H', ⟨by first | omega | exact Nat.le_refl _⟩, ⟨by exact nT (Kd.N_mono HO394.out (fun _ hk => ⟨hk.1.1, hk.1.2.2⟩))⟩, ⟨rS HO381⟩, ⟨kS⟩, ⟨bS⟩⟩
  case rest =>
   clear HC7
   try clear c1
   try clear c2
   try clear p2
   try clear c3
   try clear c5
   try clear c6
   try clear c8
   try clear c19
   try clear c21
   try clear c22
   try clear c22b0
   try clear c22b1
   try clear c24
   try clear c25
   try clear hcz11_0
   try clear hcz11_1
   try clear hcz11_2
   try clear hcz11_3
   try clear hcz11_4
   try clear hcz11_5
   try clear hcz13_0
   try clear hcz13_1
   try clear hcz13_2
   try clear hcz13_3
   try clear hcz13_4
   try clear hcz13_5
   try clear hfz11_0
   try clear hfz11_1
   try clear hfz11_2
   try clear hfz11_3
   try clear hfz11_4
   try clear hfz11_5
   try clear hfz13_0
   try clear hfz13_1
   try clear hfz13_2
   try clear hfz13_3
   try clear hfz13_4
   try clear hfz13_5
   obtain ⟨kq, x34_6, rfl, HA, HJ6, HO_4, HO_388000, BK387, HB⟩ := hcut
   cases kq with
   | zero => exact absurd HA.out (by simp [laws_FnPageDots.j0])
   | succ kj6 =>
    have H := HA.out
    clear HA
    simp only [laws_FnPageDots.j0] at H
    by_cases c28 : x34_6 = true
    ·subst c28
     rw [if_pos rfl] at H
     exact absurd ((Option.some.inj H).trans hT) (by decide)
    ·obtain rfl := Bool.eq_false_iff.mpr c28
     rw [if_neg nF] at H
     by_cases c29 : t382 = 255
     ·rw [if_pos c29] at H
      have c29b0 : (t382 == 255) = true := beq_iff_eq.mpr c29
      have c29b1 : (t382 != 255) = false := bne_eq_false_iff_eq.mpr c29
      clear c29
      obtain rfl := Option.some.inj H
      (try clear hT)
      try go_wp2
      replace HO_4 := Aside0.mk (Kd.N_drew HO_4.out)
      replace HO_388000 := Aside0.mk (Kd.R_drew HO_388000.out)
      replace BK387 := Aside0.mk (blk_drew BK387.out)
      replace HB := Aside0.mk (below_drew1 HB.out)
      refine start_ (n := 13) (S := fun w' => w'.cell? ⟨gb387, 0, none⟩ = some (.slice Ao10 t379.length co10) ∧ w'.cell? ⟨gb387, 1, none⟩ = some (.int .i64 t382) ∧ w'.cell? ⟨gb387, 2, none⟩ = some (.int .i64 t383) ∧ w'.cell? ⟨gb387, 3, none⟩ = some (.int .i64 t384) ∧ w'.cell? ⟨gb387, 4, none⟩ = some (.int .i64 t385) ∧ w'.cell? ⟨gb387, 5, none⟩ = some (.int .i64 t386)) (ds := []) #[false, false, false, false, false, false, false, false, false, false, false, false, false] (by kernel_rfl) rfl rfl (cy6 BK387) (fun hHeld => ?_); refine with_tabW laws_FnPageDots.tab8 laws_FnPageDots.bits8 (fun HT_ HW_ => ?_)
      generalize wc.drew = w30 at HO_4 HO_388000 BK387 HB hHeld ⊢
      refine pU 0 (some 35) #[true, false, false, false, false, false, false, false, false, false, false, false, false] ?_
      refine tK 1 (some 36) #[true, true, false, false, false, false, false, false, false, false, false, false, false] ?_
      refine pU 2 (some 37) #[true, true, true, false, false, false, false, false, false, false, false, false, false] ?_
      refine pU 3 (some 38) #[true, true, true, true, false, false, false, false, false, false, false, false, false] ?_
      refine pure_ (i := 4) (N := some 39) (v := undef) (a' := ?_) #[true, true, true, true, true, false, false, false, false, false, false, false, false] rfl rfl (any_of HT_.out (by kernel_rfl)) (fun _ _ _ h => h) (Or.inr ⟨by rfl, rfl⟩) ?_ ?_
      rotate_left
      ·simp only [Act.put, List.setIfInBounds_toArray, List.set_cons_zero, List.set_cons_succ, i64_w, i32_w]
       rfl
      refine pure_ (i := 5) (N := some 40) (v := undef) (a' := ?_) #[true, true, true, true, true, true, false, false, false, false, false, false, false] rfl rfl (any_of HT_.out (by kernel_rfl)) (fun _ _ _ h => h) (Or.inr ⟨by rfl, rfl⟩) ?_ ?_
      rotate_left
      ·simp only [Act.put, List.setIfInBounds_toArray, List.set_cons_zero, List.set_cons_succ, i64_w, i32_w]
       rfl
      refine pure_ (i := 6) (N := some 41) (v := undef) (a' := ?_) #[true, true, true, true, true, true, true, false, false, false, false, false, false] rfl rfl (any_of HT_.out (by kernel_rfl)) (fun _ _ _ h => h) (Or.inr ⟨by rfl, rfl⟩) ?_ ?_
      rotate_left
      ·simp only [Act.put, List.setIfInBounds_toArray, List.set_cons_zero, List.set_cons_succ, i64_w, i32_w]
       rfl
      refine pure_ (i := 7) (N := some 42) (v := undef) (a' := ?_) #[true, true, true, true, true, true, true, true, false, false, false, false, false] rfl rfl (any_of HT_.out (by kernel_rfl)) (fun _ _ _ h => h) (Or.inr ⟨by rfl, rfl⟩) ?_ ?_
      rotate_left
      ·simp only [Act.put, List.setIfInBounds_toArray, List.set_cons_zero, List.set_cons_succ, i64_w, i32_w]
       rfl
      refine pure_ (i := 8) (N := some 43) (v := undef) (a' := ?_) #[true, true, true, true, true, true, true, true, true, false, false, false, false] rfl rfl (any_of HT_.out (by kernel_rfl)) (fun _ _ _ h => h) (Or.inr ⟨by rfl, rfl⟩) ?_ ?_
      rotate_left
      ·simp only [Act.put, List.setIfInBounds_toArray, List.set_cons_zero, List.set_cons_succ, i64_w, i32_w]
       rfl
      refine pure_ (i := 9) (N := some 44) (v := undef) (a' := ?_) #[true, true, true, true, true, true, true, true, true, true, false, false, false] rfl rfl (any_of HT_.out (by kernel_rfl)) (fun _ _ _ h => h) (Or.inr ⟨by rfl, rfl⟩) ?_ ?_
      rotate_left
      ·simp only [Act.put, List.setIfInBounds_toArray, List.set_cons_zero, List.set_cons_succ, i64_w, i32_w]
       rfl
      refine pure_ (i := 10) (N := some 45) (v := undef) (a' := ?_) #[true, true, true, true, true, true, true, true, true, true, true, false, false] rfl rfl (any_of HT_.out (by kernel_rfl)) (fun _ _ _ h => h) (Or.inr ⟨by rfl, rfl⟩) ?_ ?_
      rotate_left
      ·simp only [Act.put, List.setIfInBounds_toArray, List.set_cons_zero, List.set_cons_succ, i64_w, i32_w]
       rfl
      refine pU 11 (some 46) #[true, true, true, true, true, true, true, true, true, true, true, true, false] ?_
      refine pU 12 (some 2) #[true, true, true, true, true, true, true, true, true, true, true, true, true] ?_
      refine done_ (done_of HT_.out (by kernel_rfl)) ?_
      try go_wp2
      go_ret
      exact ⟨eS, bS⟩
     ·rw [if_neg c29] at H
      have c29b0 : (t382 == 255) = false := beq_eq_false_iff_ne.mpr c29
      have c29b1 : (t382 != 255) = true := bne_iff_ne.mpr c29
      replace H := bN H
      obtain ⟨t400, A31, H⟩ := H
      replace H := bN H
      obtain ⟨t401, A32, H⟩ := H
      obtain rfl := Option.some.inj H
      (try clear hT)
      try go_wp2
      replace HO_4 := Aside0.mk (Kd.N_drew HO_4.out)
      replace HO_388000 := Aside0.mk (Kd.R_drew HO_388000.out)
      replace BK387 := Aside0.mk (blk_drew BK387.out)
      replace HB := Aside0.mk (below_drew1 HB.out)
      obtain ⟨Ao34, co34, eo34⟩ := Kd.N_slice HO_4.out
      (first | subst eo34 | (injection eo34 with f1_ f2_ f3_; have f4_ := f1_.symm; have f5_ := f3_.symm; clear f1_ f2_ f3_; subst f4_; subst f5_))
      refine start_ (n := 13) (S := fun w' => w'.cell? ⟨gb387, 0, none⟩ = some (.slice Ao10 t379.length co10) ∧ w'.cell? ⟨gb387, 1, none⟩ = some (.int .i64 t382) ∧ w'.cell? ⟨gb387, 2, none⟩ = some (.int .i64 t383) ∧ w'.cell? ⟨gb387, 3, none⟩ = some (.int .i64 t384) ∧ w'.cell? ⟨gb387, 4, none⟩ = some (.int .i64 t385) ∧ w'.cell? ⟨gb387, 5, none⟩ = some (.int .i64 t386)) (ds := []) #[false, false, false, false, false, false, false, false, false, false, false, false, false] (by kernel_rfl) rfl rfl (cy6 BK387) (fun hHeld => ?_); refine with_tabW laws_FnPageDots.tab8 laws_FnPageDots.bits8 (fun HT_ HW_ => ?_)
      generalize wc.drew = w33 at HO_4 HO_388000 BK387 HB hHeld ⊢
      refine pU 0 (some 35) #[true, false, false, false, false, false, false, false, false, false, false, false, false] ?_
      refine tK 1 (some 36) #[true, true, false, false, false, false, false, false, false, false, false, false, false] ?_
      refine pU 2 (some 37) #[true, true, true, false, false, false, false, false, false, false, false, false, false] ?_
      refine pU 3 (some 38) #[true, true, true, true, false, false, false, false, false, false, false, false, false] ?_
      refine pU 4 (some 39) #[true, true, true, true, true, false, false, false, false, false, false, false, false] ?_
      refine pU 5 (some 40) #[true, true, true, true, true, true, false, false, false, false, false, false, false] ?_
      refine tK 6 (some 41) #[true, true, true, true, true, true, true, false, false, false, false, false, false] ?_
      refine tK 8 (some 43) #[true, true, true, true, true, true, true, false, true, false, false, false, false] ?_
      refine one_ (i := 7) (N := some 42) #[true, true, true, true, true, true, true, true, true, false, false, false, false] rfl rfl (one_of HT_.out (by kernel_rfl)) (by decide) (fun K hK => ?_)
      refine goes_ Try.func54 (by kernel_rfl) rfl #[.slice Ao34 t391.length co34, .int .i64 t382] (by rfl) rfl rfl (by (try simp only [List.map_toArray, List.map_cons, List.map_nil]); first | done | rfl | (simp only [List.length_drop, List.length_take]; rfl)) ?_
      with_reducible refine (impl_CountValue.calls kj6 _ _ t391 t382 t400 _ ?side1 ?side2 A31.out).mono ?_
      (case side1 => exact cS (Kd.N_reads' HO_4.out).2.2)
      (case side2 => exact (Kd.N_reads' HO_4.out).2.1)
      rintro e w' ⟨rfl, ⟨nd, rfl⟩⟩
      refine ⟨_, rfl, ?_⟩
      refine hK.out _ _ (cy6 BK387) (fun hHeld => ?_)
      clear hK K
      refine norm_ (a' := ?_) ?_ ?_
      rotate_left
      ·show Act.put _ (some 42) _ = _
       simp only [Act.put, List.setIfInBounds_toArray, List.set_cons_zero, List.set_cons_succ, i64_w, i32_w]
       rfl
      refine one_ (i := 9) (N := some 44) #[true, true, true, true, true, true, true, true, true, true, false, false, false] rfl rfl (one_of HT_.out (by kernel_rfl)) (by decide) (fun K hK => ?_)
      refine goes_ Try.func55 (by kernel_rfl) rfl #[.agg #[.slice Ao10 t379.length co10, .int .i64 t382, .int .i64 t383, .int .i64 t384, .int .i64 t385, .int .i64 t386]] (by rfl) rfl rfl (by (try simp only [List.map_toArray, List.map_cons, List.map_nil]); first | done | rfl | (simp only [List.length_drop, List.length_take]; rfl)) ?_
      with_reducible refine (impl_ObjectDots.calls kj6 _ _ t379 t382 t383 t384 t385 t386 t401 _ ?side1 ?side2 A32.out).mono ?_
      (case side1 => exact cS (Kd.R_reads' HO_388000.out).2.2)
      (case side2 => exact (Kd.R_reads' HO_388000.out).2.1)
      rintro e w35 ⟨rfl, hb⟩
      refine ⟨_, rfl, ?_⟩
      replace HO_4 := Aside0.mk (Kd.N_below (nS HO_4) hb)
      replace HO_388000 := Aside0.mk (Kd.R_below (rS HO_388000) hb)
      replace BK387 := kB (g := gb387) hb
      replace HB := hB hb
      (try clear hb)
      (try clear hb2)
      (try clear hk)
      (try clear hi)
      refine hK.out _ _ (cy6 BK387) (fun hHeld => ?_)
      clear hK K
      refine norm_ (a' := ?_) ?_ ?_
      rotate_left
      ·show Act.put _ (some 44) _ = _
       simp only [Act.put, List.setIfInBounds_toArray, List.set_cons_zero, List.set_cons_succ, i64_w, i32_w]
       rfl
      refine pU 10 (some 45) #[true, true, true, true, true, true, true, true, true, true, true, false, false] ?_
      refine pU 11 (some 46) #[true, true, true, true, true, true, true, true, true, true, true, true, false] ?_
      refine pU 12 (some 2) #[true, true, true, true, true, true, true, true, true, true, true, true, true] ?_
      refine done_ (done_of HT_.out (by kernel_rfl)) ?_
      try go_wp2
      go_ret
      exact ⟨eS, bS⟩

end Go.Proofs.Ytimpejidlnjhlaa.QFnPageDots
