/- Walks of functions of the program, made out of the translation by a program of this session: each answers what its plain function tells, for every input at which that is told. -/
import Derived.Test.YtjkgponlahfnjaaGreatQFnExactExecTokenx0
namespace Go.Proofs.YtjkgponlahfnjaaGreat.QFnExactExecToken
open Go.RowKit Go.Proofs.YtjkgponlahfnjaaGreatW.PrintWords Go.Proofs.YtjkgponlahfnjaaGreatW.PrintLast Go.Proofs.YtjkgponlahfnjaaGreatW.PrintMore
attribute [local go_sem] max2_int min2_int max_two min_two max_three min_three max_four min_four   -- for this text's walks alone
set_option linter.unusedVariables false
set_option linter.unusedSimpArgs false
set_option maxHeartbeats 8000000
set_option maxRecDepth 100000
/-! ### spec_l07Shape: function 68 -/
def spec_l07Shape.f (a2 : List (S111)) (a5 : Int) (a6 : Int) (a7 : Int) (a8 : Int) (a9 : Int) : Option ((List (S111)) × Int × Int × Int × Int × Int) := (some (([] : List (S111)) : List (S111))).bind fun a3 => (if a3.length + a2.length < 8796093022208 then (some ((a3 ++ a2), a5, a6, a7, a8, a9)) else (none))
def spec_l07Shape.T1 : Bool × List (List Nat × List Nat) := (true, [([], []), ([], []), ([1], [1]), ([0, 2], [0, 2]), ([], []), ([4], [4]), ([], []), ([6], [6]), ([3, 5, 7], [3, 5, 7]), ([8, 3, 0, 1, 2, 3, 4, 5, 6, 7, 8], [8])])
def spec_l07Shape.B1 : List Nat := [0, 0, 2, 7, 0, 16, 0, 64, 255, 511]
theorem spec_l07Shape.tab1 : rtab .any (opsOf Tryz.f68 1) = spec_l07Shape.T1 := by kernel_rfl
theorem spec_l07Shape.bits1 : waitsOk spec_l07Shape.T1.2 spec_l07Shape.B1 = true := by kernel_rfl
theorem spec_l07Shape.calls (d0 : Option Addr) (d1 : Nat) (a7 : List (S111)) (a9 : Int) (b0 : Int) (b1 : Int) (b2 : Int) (b6 : Int) (r1 : List (S111)) (r2 : Int) (r3 : Int) (r4 : Int) (r5 : Int) (r6 : Int) (w : World) (d2 : Kd.C k111 w d0 a7.length a7) (d3 : a7.length ≤ d1) (h : spec_l07Shape.f a7 a9 b0 b1 b2 b6 = some (r1, r2, r3, r4, r5, r6)) :
  Calls Tryz.prog 68 #[.agg #[.slice d0 a7.length d1, .int .i64 a9, .int .i64 b0, .int .i64 b1, .int .i64 b2, .int .i64 b6]] w fun e w' => ∃ v0_ : Value, e = .returned (.agg #[v0_, .int .i64 r2, .int .i64 r3, .int .i64 r4, .int .i64 r5, .int .i64 r6]) ∧ Kd.R k111 111 w' w.heap.size (fun _ => True) v0_ r1 ∧ Below w.heap.size w w' := by
 have hu103 := Tryz.underlying103
 have hu40 := Tryz.underlying40
 have d5 := aM d2
 have e2 := aM d3
 clear d2 d3
 have HB := aM (Below.refl w.heap.size w)
 have H := h
 clear h
 unfold spec_l07Shape.f at H
 obtain ⟨b9, hy_⟩ : ∃ y_ : List (S111), y_ = (([] : List (S111))) := ⟨_, rfl⟩
 replace H : (if b9.length + a7.length < 8796093022208 then (some ((b9 ++ a7), a9, b0, b1, b2, b6)) else (none)) = some (r1, r2, r3, r4, r5, r6) := yS
 have Ny173 := aM hy_
 clear hy_
 by_cases c2 : b9.length + a7.length < 8796093022208
 ·rw [if_pos c2] at H
  have LMc2 := aM c2
  clear c2
  obtain ⟨d6, hy_⟩ : ∃ y_ : List (S111), y_ = (b9 ++ a7) := ⟨_, rfl⟩
  replace H : (some (d6, a9, b0, b1, b2, b6)) = some (r1, r2, r3, r4, r5, r6) := yS
  have Ny176 := aM hy_
  clear hy_
  obtain ⟨rfl, rfl, rfl, rfl, rfl, rfl⟩ := sI6 H
  go_enter Tryz.func68, Tryz.ntmps68
  try go_wp2_with (first | ((with_reducible refine gD 1 ?_); refine bxE #[.slice d0 a7.length d1, .int .i64 a9, .int .i64 b0, .int .i64 b1, .int .i64 b2, .int .i64 b6] 103 ?_; intro a5 hg w3 a6 hb; have GE171 := gE hg; replace HB := hB hb; clear hb hg) | ((with_reducible refine gD 2 ?_); refine bxE #[.slice none 0 0, .int .i64 0, .int .i64 0, .int .i64 0, .int .i64 0, .int .i64 0] 103 ?_; intro a8 hg w4 a2 hb; have GE172 := gE hg; have a3 := nL_ a5 hg; have b8 := nG_ a5 hg; replace a6 := kB_ a5 hb; replace HB := hB hb; clear hb hg))
  replace a6 := bD a6
  replace a2 := bD a2
  replace HB := hD HB
  refine start_ (n := 10) (S := fun w' => w'.cell? ⟨a5, 0, none⟩ = some (.slice d0 a7.length d1) ∧ w'.cell? ⟨a5, 1, none⟩ = some (.int .i64 a9) ∧ w'.cell? ⟨a5, 2, none⟩ = some (.int .i64 b0) ∧ w'.cell? ⟨a5, 3, none⟩ = some (.int .i64 b1) ∧ w'.cell? ⟨a5, 4, none⟩ = some (.int .i64 b2) ∧ w'.cell? ⟨a5, 5, none⟩ = some (.int .i64 b6)) (ds := []) (mB 10 0) (by kernel_rfl) rfl rfl (cy6 a6) (fun hHeld => ?_); refine with_tabW spec_l07Shape.tab1 spec_l07Shape.bits1 (fun HT_ HW_ => ?_)
  generalize w4.drew = w5 at a6 a2 HB hHeld ⊢
  refine pU 1 (some 4) (mB 10 2) ?_
  refine pU 4 (some 7) (mB 10 18) ?_
  refine pU 6 (some 9) (mB 10 82) ?_
  refine tK 2 (some 5) (mB 10 86) ?_
  refine tK 5 (some 8) (mB 10 118) ?_
  refine tK 7 (some 10) (mB 10 246) ?_
  refine one_ (i := 0) (N := some 3) (mB 10 247) rfl rfl (one_of HT_.out (by kernel_rfl)) (by decide) (fun K hK => ?_)
  refine Kd.R_lit_step k111 _ 111 ?hg (N := 3) ?hd (xs := ([] : List (S111))) (inner := []) (ok := fun _ => True) (okp := fun _ => True) ?hr ?hp (fun _ hk => hk) trivial (Below.refl _ _) (Nat.le_refl _) (by simp) ?_; (case hd => rfl); (case hg => rfl); (case hr => first | (go_simp; done) | (go_simp; rfl)); (case hp => exact (Reps.none _ _))
  intro e1 w6 e0 hb hg_ hnew_
  clear hg_ hnew_
  (first | rw [← Ny173.out] at e0 | (simp only [Int.reduceToNat] at e0; rw [← Ny173.out] at e0))
  have b7 := aM (Kd.R_lower e0 (below_size bS))
  replace a6 := kB_ a5 hb
  replace a2 := kB_ a8 hb
  replace HB := hB hb
  clear hb e0
  refine hK.out _ _ (cy6 a6) (fun hHeld => ?_)
  clear hK K
  refine norm_ (a' := ?_) ?_ ?_
  rotate_left
  ·show Act.put _ (some 3) _ = _
   simp only [Act.put, List.setIfInBounds_toArray, List.set_cons_zero, List.set_cons_succ, i64_w, i32_w]
   rfl
  refine one_ (i := 3) (N := some 6) (mB 10 255) rfl rfl (one_of HT_.out (by kernel_rfl)) (by decide) (fun K hK => ?_)
  refine Kd.R_append_rows_step k111 (w0 := w) w.heap.size (by rfl) (.tmp 3) (.tmp 5) 39 111 (.agg #[(.int .i64 0), (.int .i64 0)]) 16 rfl Tryz.underlying39 info111 rfl (by decide) (by omega) e1 b9 a7 _ _ _ (fun _ => True) (fun _ => False) rfl rfl ?aO ?aR (fun _ _ h => h) (fun _ h => h.elim) ?aF ?aB ?aS ?aL ?_
  (case aR => exact cS (Kd.C_below d5.out HB.out))
  (case aB => exact bS)
  (case aF => exact (fun _ _ => trivial))
  (case aO => exact (rS b7))
  (case aS => exact (below_size bS))
  (case aL => have := LMc2.out; (try dsimp only at this); omega)
  intro e4 w8 ho hb hg hat
  rw [← Ny176.out] at ho
  have d4 := aM (ho)
  replace a6 := aM (blk_grown (g := a5) kS hg (Kd.R_ne b7.out a6.out (by decide)))
  replace a2 := aM (blk_grown (g := a8) kS hg (Kd.R_ne b7.out a2.out (by decide)))
  replace HB := aM (hb)
  clear b7
  clear ho hb hg hat
  obtain ⟨e5, e6, e3⟩ := Kd.R_slice d4.out
  (first | subst e3 | obtain ⟨rfl, rfl⟩ := slE e3)
  refine hK.out _ _ (cy6 a6) (fun hHeld => ?_)
  clear hK K
  refine norm_ (a' := ?_) ?_ ?_
  rotate_left
  ·show Act.put _ (some 6) _ = _
   simp only [Act.put, List.setIfInBounds_toArray, List.set_cons_zero, List.set_cons_succ, i64_w, i32_w]
   rfl
  refine pU 8 (some 11) (mB 10 511) ?_
  refine one_ (i := 9) (N := none) (mB 10 1023) rfl rfl (one_of HT_.out (by kernel_rfl)) (by decide) (fun K hK => ?_)
  have hs10 := cg0 a2
  have hfs10 := blk_frozen a2.out 0
  have hns10_0 := nP a3 b8
  have hs11 := cg1 a2
  have hfs11 := blk_frozen a2.out 1
  have hs12 := cg2 a2
  have hfs12 := blk_frozen a2.out 2
  have hs13 := cg3 a2
  have hfs13 := blk_frozen a2.out 3
  have hs14 := cg4 a2
  have hfs14 := blk_frozen a2.out 4
  have hs15 := cg5 a2
  have hfs15 := blk_frozen a2.out 5
  refine skip_ (w1 := ?_) (by rfl) rfl ?_ ?_
  rotate_left
  ·go_simp
   rfl
  refine hK.out _ _ (onW (g := a8) (fun on_ => ⟨(cO a3 on_ hHeld.1), (cO a3 on_ hHeld.2.1), (cO a3 on_ hHeld.2.2.1), (cO a3 on_ hHeld.2.2.2.1), (cO a3 on_ hHeld.2.2.2.2.1), (cO a3 on_ hHeld.2.2.2.2.2)⟩)) (fun hHeld => ?_)
  clear hK K
  refine done_ (done_of HT_.out (by kernel_rfl)) ?_
  try go_wp2
  refine bodyPost_ret (results_cell_row rfl _ _ a8 103 #[.slice e5 d6.length e6, .int .i64 a9, .int .i64 b0, .int .i64 b1, .int .i64 b2, .int .i64 b6] (0, 0) _ rfl kS Tryz.underlying103 rfl (by kernel_rfl)) rfl ?_
  exact ⟨_, eS, by exact Kd.R_mono (R_on (g := a8) (Kd.R_types d4.out a2.out (by decide)) (fun _ hk => hk.2)) (fun _ hk => trivial), bS⟩
 ·rw [if_neg c2] at H
  exact absurd H (by simp)
end Go.Proofs.YtjkgponlahfnjaaGreat.QFnExactExecToken
