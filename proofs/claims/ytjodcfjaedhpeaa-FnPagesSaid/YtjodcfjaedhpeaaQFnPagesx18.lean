-- Made out of the translation by a program of this session (a changed copy of the print). Not trusted: Lean checks it.
import Derived.Test.YtjodcfjaedhpeaaQFnPagesx0
import Derived.Test.YtjodcfjaedhpeaaQFnPagesx16
namespace Go.Proofs.Ytjodcfjaedhpeaa.QFnPages
open Go.RowKit Go.Proofs.YtjodcfjaedhpeaaW.PrintWords Go.Proofs.YtjodcfjaedhpeaaW.PrintLast Go.Proofs.YtjodcfjaedhpeaaW.PrintMore
attribute [local go_sem] max2_int min2_int max_two min_two max_three min_three max_four min_four   -- for this text's walks alone
set_option linter.unusedVariables false
set_option linter.unusedSimpArgs false
set_option maxHeartbeats 8000000
set_option maxRecDepth 100000

/-! ### impl_pageBox: function 22 -/
def impl_pageBox.f  : Option (Int × Int × Int × Int) := some (0, 0, 32, 32)
theorem impl_pageBox.calls  (r1 : Int) (r2 : Int) (r3 : Int) (r4 : Int) (w : World) (h : impl_pageBox.f  = some (r1, r2, r3, r4)) :
  Calls Try.prog 22 #[] w fun e w' => e = .returned (.agg #[.int .i64 r1, .int .i64 r2, .int .i64 r3, .int .i64 r4]) ∧ Below w.heap.size w w' := by
 have hu29 := Try.underlying29
 have HB := aM (Below.refl w.heap.size w)
 have H := h
 clear h
 unfold impl_pageBox.f at H
 obtain ⟨rfl, rfl, rfl, rfl⟩ := sI4 H
 go_enter Try.func22, Try.ntmps22
 go_wp2_with (first | ((with_reducible refine gD 0 ?_); refine bxE #[.int .i64 0, .int .i64 0, .int .i64 0, .int .i64 0] 29 ?_; intro a2 hg w1 a3 hb; have GE1006 := gE hg; replace HB := hB hb; clear hb hg; have hz2 := cz4 a3))
 refine bodyPost_ret (results_cell_row rfl _ _ a2 29 #[.int .i64 0, .int .i64 0, .int .i64 32, .int .i64 32] (0, 0) _ rfl kS Try.underlying29 rfl (by kernel_rfl)) rfl ?_
 exact ⟨eS, bS⟩

/-! ### impl_NewPage: function 8 -/
def impl_NewPage.f  : Option (List Int × Int × Int × Int × Int × (List (S80)) × Int × Int × Int × Int × Int × (List (S31)) × (List (S60))) := (impl_Identity.f).bind fun a2 => ((impl_pageBox.f).bind fun a3 => (some (([] : List Int), a2.1, a2.2.1, a2.2.2.1, a2.2.2.2, ([] : List (S80)), 0, a3.1, a3.2.1, a3.2.2.1, a3.2.2.2, ([] : List (S31)), ([] : List (S60)))))
theorem impl_NewPage.calls  (r1 : List Int) (r2 : Int) (r3 : Int) (r4 : Int) (r5 : Int) (r6 : List (S80)) (r7 : Int) (r8 : Int) (r9 : Int) (b6 : Int) (b7 : Int) (b8 : List (S31)) (b9 : List (S60)) (w : World) (h : impl_NewPage.f  = some (r1, r2, r3, r4, r5, r6, r7, r8, r9, b6, b7, b8, b9)) :
  Calls Try.prog 8 #[] w fun e w' => ∃ v0_ v5_ v11_ v12_ : Value, e = .returned (.agg #[v0_, .int .i64 r2, .int .i64 r3, .int .i64 r4, .int .i64 r5, v5_, .int .i64 r7, .int .i64 r8, .int .i64 r9, .int .i64 b6, .int .i64 b7, v11_, v12_]) ∧ Kd.R (Kd.int .i64) 3 w' w.heap.size (fun _ => True) v0_ r1 ∧ Kd.R k80 80 w' w.heap.size (fun _ => True) v5_ r6 ∧ Kd.S k31 31 w' w.heap.size (fun k_ => some k_ ≠ (v0_ : Value).ownBlock ∧ some k_ ≠ (v5_ : Value).ownBlock) v11_ b8 ∧ Kd.S k60 60 w' w.heap.size (fun k_ => some k_ ≠ (v5_ : Value).ownBlock) v12_ b9 ∧ Below w.heap.size w w' := by
 have hu35 := Try.underlying35
 have hu31 := Try.underlying31
 have HB := aM (Below.refl w.heap.size w)
 have H := h
 clear h
 unfold impl_NewPage.f at H
 replace H := bN H
 obtain ⟨⟨a5, a6, a7, a8⟩, A1, H⟩ := H
 replace H := bN H
 obtain ⟨⟨a9, b0, b1, b2⟩, A2, H⟩ := H
 simp only [Option.some.injEq, Prod.mk.injEq] at H
 obtain ⟨rfl, rfl, rfl, rfl, rfl, rfl, rfl, rfl, rfl, rfl, rfl, rfl, rfl⟩ := H
 go_enter Try.func8, Try.ntmps8
 go_wp2_with (first | ((with_reducible refine gD 0 ?_); refine bxE #[.slice none 0 0, .int .i64 0, .int .i64 0, .int .i64 0, .int .i64 0, .slice none 0 0, .int .i64 0, .int .i64 0, .int .i64 0, .int .i64 0, .int .i64 0, .slice none 0 0, .slice none 0 0] 35 ?_; intro a2 hg w3 a3 hb; have GE1007 := gE hg; replace HB := hB hb; clear hb hg) | ((with_reducible refine gC 21 ?_); refine cM (some 1) Try.func21 (impl_Identity.calls  a5 a6 a7 a8 _ A1.out) ?_; rintro e w4 ⟨rfl, hb⟩; refine ⟨_, rfl, ?_⟩; replace a3 := kB_ a2 hb; replace HB := hB hb; (try clear hb)) | ((with_reducible refine gC 22 ?_); refine cM (some 2) Try.func22 (impl_pageBox.calls  a9 b0 b1 b2 _ A2.out) ?_; rintro e w5 ⟨rfl, hb⟩; refine ⟨_, rfl, ?_⟩; replace a3 := kB_ a2 hb; replace HB := hB hb; (try clear hb); have hz6 := cz13 a3))
 refine bodyPost_ret (results_cell_row rfl _ _ a2 35 #[.slice none 0 0, .int .i64 a5, .int .i64 a6, .int .i64 a7, .int .i64 a8, .slice none 0 0, .int .i64 0, .int .i64 a9, .int .i64 b0, .int .i64 b1, .int .i64 b2, .slice none 0 0, .slice none 0 0] (0, 0) _ rfl kS Try.underlying35 rfl (by kernel_rfl)) rfl ?_
 exact ⟨_, _, _, _, eS, by first | exact Kd.R_nil _ _ _ _ _ | exact Kd.N_nil _ _ _ _ _ | exact Kd.V_nil _ _ _ _ _ | exact Kd.Q_nil _ _ _ _ _ | exact Kd.S_nil _ _ _ _ _, by first | exact Kd.R_nil _ _ _ _ _ | exact Kd.N_nil _ _ _ _ _ | exact Kd.V_nil _ _ _ _ _ | exact Kd.Q_nil _ _ _ _ _ | exact Kd.S_nil _ _ _ _ _, by first | exact Kd.S_nil _ _ _ _ _ | exact Kd.N_nil _ _ _ _ _ | exact Kd.V_nil _ _ _ _ _ | exact Kd.Q_nil _ _ _ _ _ | exact Kd.R_nil _ _ _ _ _, by first | exact Kd.S_nil _ _ _ _ _ | exact Kd.N_nil _ _ _ _ _ | exact Kd.V_nil _ _ _ _ _ | exact Kd.Q_nil _ _ _ _ _ | exact Kd.R_nil _ _ _ _ _, bS⟩

end Go.Proofs.Ytjodcfjaedhpeaa.QFnPages
