/- Walks of functions of the program, made out of the translation by a program of this session: each answers what its plain function tells, for every input at which that is told. -/
import Derived.Test.YtjkgponlahfnjaaGreatQFnExactExecTokenx0
import Derived.Test.YtjkgponlahfnjaaGreatQFnExactExecTokenx11
namespace Go.Proofs.YtjkgponlahfnjaaGreat.QFnExactExecToken
open Go.RowKit Go.Proofs.YtjkgponlahfnjaaGreatW.PrintWords Go.Proofs.YtjkgponlahfnjaaGreatW.PrintLast Go.Proofs.YtjkgponlahfnjaaGreatW.PrintMore
attribute [local go_sem] max2_int min2_int max_two min_two max_three min_three max_four min_four   -- for this text's walks alone
set_option linter.unusedVariables false
set_option linter.unusedSimpArgs false
set_option maxHeartbeats 8000000
set_option maxRecDepth 100000
/-! ### impl_quarters: function 119 -/
def impl_quarters.l0 : Nat → Int → Int → Int → Option (Int × Int)
 | 0, _, _, _ => none
 | k + 1, x1, a2, a3 => if x1 > 0 then (impl_quarters.l0 k (wrap64 (x1 - 1)) (wrap64 (-a3)) a2) else (some (a2, a3))
def impl_quarters.f (k : Nat) (a2 : Int) (a3 : Int) (a1 : Int) : Option (Int × Int) := impl_quarters.l0 k a1 a2 a3
theorem impl_quarters.calls (k : Nat) (b0 : Int) (b1 : Int) (a1 : Int) (r1 : Int) (r2 : Int) (w : World) (h : impl_quarters.f k b0 b1 a1 = some (r1, r2)) :
  Calls Tryz.prog 119 #[.agg #[.int .i64 b0, .int .i64 b1], .int .i64 a1] w fun e w' => e = .returned (.agg #[.int .i64 r1, .int .i64 r2]) ∧ Below w.heap.size w w' := by
 have hu111 := Tryz.underlying111
 have HB := aM (Below.refl w.heap.size w)
 have H := h
 clear h
 unfold impl_quarters.f at H
 have H' := aM H
 clear H
 go_enter Tryz.func119, Tryz.ntmps119
 go_wp2_with (first | ((with_reducible refine gD 2 ?_); refine bxE #[.int .i64 b0, .int .i64 b1] 111 ?_; intro a8 hg w3 a9 hb; have GE858 := gE hg; replace HB := hB hb; clear hb hg) | ((with_reducible refine gD 4 ?_); refine bxE #[.int .i64 0, .int .i64 0] 111 ?_; intro b2 hg w4 b6 hb; have GE859 := gE hg; have a5 := nL_ a8 hg; have a6 := nG_ a8 hg; replace a9 := kB_ a8 hb; replace HB := hB hb; clear hb hg))
 (try simp only [Act.put, List.setIfInBounds_toArray, List.set_cons_zero, List.set_cons_succ])
 go_loopg [1] k (fun kq v1 w' => ∃ (a7 : Int) (a2 : Int) (a3 : Int), v1 = .int .i64 a7 ∧ Aside0 (impl_quarters.l0 kq a7 a2 a3 = some (r1, r2)) ∧ Aside0 (kq ≤ k) ∧ Aside0 (w'.heap[a8]? = some (.cells #[.int .i64 a2, .int .i64 a3] 111 (0, 0))) ∧ Aside0 (w'.heap[b2]? = some (.cells #[.int .i64 0, .int .i64 0] 111 (0, 0))) ∧ Aside0 (Below w.heap.size w w'))
 case atStart => exact ⟨(a1), (b0), (b1), fS, H', ⟨Nat.le_refl _⟩, ⟨kS⟩, ⟨kS⟩, ⟨bS⟩⟩
 case round =>
  clear H'
  try clear c1
  try clear p2
  obtain ⟨a7, a2, a3, rfl, HA, b8, a9, b6, HB⟩ := hrel
  cases gk with
  | zero => exact absurd HA.out (by simp [impl_quarters.l0])
  | succ k1 =>
   have H := HA.out
   clear HA
   simp only [impl_quarters.l0] at H
   by_cases c5 : a7 > 0
   ·rw [if_pos c5] at H
    have b7 : decide (0 < a7) = true := decide_eq_true c5
    clear c5
    have H' := aM H
    clear H
    have hnb6 := nP a5 a6
    have hz7 := cz2 a9
    go_wp2
    go_roundg k1
    case measure => have := b8.out; omega
    case rel => exact ⟨(wrap64 (a7 - 1)), (wrap64 (-a3)), (a2), fS, H', ⟨by have := b8.out; omega⟩, ⟨kS⟩, ⟨kS⟩, ⟨bS⟩⟩
   ·rw [if_neg c5] at H
    have b7 : decide (0 < a7) = false := decide_eq_false c5
    clear c5
    obtain ⟨rfl, rfl⟩ := sI2 H
    have hnb8 := nP a5 a6
    have hz9 := cz2 a9
    have hz10 := cz2 b6
    go_wp2
    refine bodyPost_ret (results_cell_row rfl _ _ b2 111 #[.int .i64 a2, .int .i64 a3] (0, 0) _ rfl kS Tryz.underlying111 rfl (by kernel_rfl)) rfl ?_
    exact ⟨eS, bS⟩
def impl_moved.f (k : Nat) (a5 : Int) (a3 : Int) (a6 : Int) (a7 : Int) (a8 : Int) (a9 : Int) : Option (Int × Int) := (impl_quarters.f k (wrap64 (a8 * a3)) (wrap64 (a9 * a3)) a5).bind fun a2 => (some (wrap64 (a2.1 + a6), wrap64 (a2.2 + a7)))
theorem impl_moved.calls (k : Nat) (d5 : Int) (d3 : Int) (d6 : Int) (e0 : Int) (e1 : Int) (e2 : Int) (r1 : Int) (r2 : Int) (w : World) (h : impl_moved.f k d5 d3 d6 e0 e1 e2 = some (r1, r2)) :
  Calls Tryz.prog 89 #[.agg #[.int .i64 d5, .int .i64 d3, .int .i64 d6, .int .i64 e0], .agg #[.int .i64 e1, .int .i64 e2]] w fun e w' => e = .returned (.agg #[.int .i64 r1, .int .i64 r2]) ∧ Below w.heap.size w w' := by
 have hu38 := Tryz.underlying38
 have hu111 := Tryz.underlying111
 have HB := aM (Below.refl w.heap.size w)
 have H := h
 clear h
 unfold impl_moved.f at H
 replace H := bN H
 obtain ⟨⟨e3, e4⟩, A3, H⟩ := H
 obtain ⟨rfl, rfl⟩ := sI2 H
 go_enter Tryz.func89, Tryz.ntmps89
 go_wp2_with (first | ((with_reducible refine gD 2 ?_); refine bxE #[.int .i64 d5, .int .i64 d3, .int .i64 d6, .int .i64 e0] 38 ?_; intro a2 hg w4 a5 hb; have GE860 := gE hg; replace HB := hB hb; clear hb hg) | ((with_reducible refine gD 3 ?_); refine bxE #[.int .i64 e1, .int .i64 e2] 111 ?_; intro a3 hg w5 a7 hb; have GE861 := gE hg; have a8 := nL_ a2 hg; have a9 := nG_ a2 hg; replace a5 := kB_ a2 hb; replace HB := hB hb; clear hb hg) | ((with_reducible refine gD 4 ?_); refine bxE #[.int .i64 0, .int .i64 0] 111 ?_; intro a6 hg w6 d4 hb; have GE862 := gE hg; have b0 := nL_ a2 hg; have b1 := nG_ a2 hg; have b2 := nL_ a3 hg; have b6 := nG_ a3 hg; replace a5 := kB_ a2 hb; replace a7 := kB_ a3 hb; replace HB := hB hb; clear hb hg; have hnb7 := nP a9 a8; have hnb8 := nP b2 b6; have hz9 := cz2 a7; have hnb10 := nP b0 b1; have hz11 := cz4 a5) | ((with_reducible refine gC 119 ?_); refine cM (some 19) Tryz.func119 (impl_quarters.calls k (wrap64 (e1 * d3)) (wrap64 (e2 * d3)) d5 e3 e4 _ A3.out) ?_; rintro e e7 ⟨rfl, hb⟩; refine ⟨_, rfl, ?_⟩; replace a5 := kB_ a2 hb; replace a7 := kB_ a3 hb; replace d4 := kB_ a6 hb; replace HB := hB hb; (try clear hb)) | ((with_reducible refine gD 5 ?_); refine bxE #[.int .i64 0, .int .i64 0] 111 ?_; intro e6 hg e8 e5 hb; have GE865 := gE hg; have b7 := nL_ a2 hg; have b8 := nG_ a2 hg; have b9 := nL_ a3 hg; have d0 := nG_ a3 hg; have d1 := nL_ a6 hg; have d2 := nG_ a6 hg; replace a5 := kB_ a2 hb; replace a7 := kB_ a3 hb; replace d4 := kB_ a6 hb; replace HB := hB hb; clear hb hg; have hnb14 := nP b8 b7; have hnb15 := nP d0 b9; have hnb16 := nP d2 d1; have hz17 := cz2 e5; have hz18 := cz4 a5; have hz19 := cz2 d4))
 refine bodyPost_ret (results_cell_row rfl _ _ a6 111 #[.int .i64 (wrap64 (e3 + d6)), .int .i64 (wrap64 (e4 + e0))] (0, 0) _ rfl kS Tryz.underlying111 rfl (by kernel_rfl)) rfl ?_
 exact ⟨eS, bS⟩
def impl_MeetBox.j0 : Nat → Bool → Int → Int → Int → Int → Int → Int → Int → Int → Option (Int × Int × Int × Int)
 | 0, _, _, _, _, _, _, _, _, _ => none
 | k + 1, b1, a2, a3, a5, a6, a7, a8, a9, b0 => if b1 = true then (some (0, 0, 0, 0)) else (if (mx a2 a7) ≥ (mn a5 a9) then (some (0, 0, 0, 0)) else (if (mx a3 a8) ≥ (mn a6 b0) then (some (0, 0, 0, 0)) else (some (mx a2 a7, mx a3 a8, mn a5 a9, mn a6 b0))))
def impl_MeetBox.f (k : Nat) (a2 : Int) (a3 : Int) (a5 : Int) (a6 : Int) (a7 : Int) (a8 : Int) (a9 : Int) (b0 : Int) : Option (Int × Int × Int × Int) := (impl_BoxOk.f a2 a3 a5 a6).bind fun b1 => (if b1 = true then ((impl_BoxOk.f a7 a8 a9 b0).bind fun b2 => (impl_MeetBox.j0 k (!b2) a2 a3 a5 a6 a7 a8 a9 b0)) else (impl_MeetBox.j0 k true a2 a3 a5 a6 a7 a8 a9 b0))
theorem impl_MeetBox.calls (k : Nat) (e3 : Int) (e1 : Int) (d6 : Int) (d4 : Int) (e4 : Int) (e2 : Int) (e0 : Int) (d5 : Int) (r1 : Int) (r2 : Int) (r3 : Int) (r4 : Int) (w : World) (h : impl_MeetBox.f k e3 e1 d6 d4 e4 e2 e0 d5 = some (r1, r2, r3, r4)) :
  Calls Tryz.prog 91 #[.agg #[.int .i64 e3, .int .i64 e1, .int .i64 d6, .int .i64 d4], .agg #[.int .i64 e4, .int .i64 e2, .int .i64 e0, .int .i64 d5]] w fun e w' => e = .returned (.agg #[.int .i64 r1, .int .i64 r2, .int .i64 r3, .int .i64 r4]) ∧ Below w.heap.size w w' := by
 have hu40 := Tryz.underlying40
 have HB := aM (Below.refl w.heap.size w)
 have H := h
 clear h
 unfold impl_MeetBox.f at H
 have f5 := aM H
 clear H
 go_enter Tryz.func91, Tryz.ntmps91
 go_upto_region 1 with (first | ((with_reducible refine gD 2 ?_); refine bxE #[.int .i64 e3, .int .i64 e1, .int .i64 d6, .int .i64 d4] 40 ?_; intro a2 hg w4 a8 hb; have GE866 := gE hg; replace HB := hB hb; clear hb hg) | ((with_reducible refine gD 3 ?_); refine bxE #[.int .i64 e4, .int .i64 e2, .int .i64 e0, .int .i64 d5] 40 ?_; intro a5 hg w5 d2 hb; have GE867 := gE hg; have a9 := nL_ a2 hg; have b0 := nG_ a2 hg; replace a8 := kB_ a2 hb; replace HB := hB hb; clear hb hg) | ((with_reducible refine gD 4 ?_); refine bxE #[.int .i64 0, .int .i64 0, .int .i64 0, .int .i64 0] 40 ?_; intro a3 hg w6 d3 hb; have GE868 := gE hg; have a6 := nL_ a2 hg; have a7 := nG_ a2 hg; have b1 := nL_ a5 hg; have b2 := nG_ a5 hg; replace a8 := kB_ a2 hb; replace d2 := kB_ a5 hb; replace HB := hB hb; clear hb hg))
 (try simp only [Act.put, List.setIfInBounds_toArray, List.set_cons_zero, List.set_cons_succ])
 go_cut [13] (fun f8 wc => ∃ (kq : Nat) (e6 : Bool), f8 = .bool e6 ∧ Aside0 (impl_MeetBox.j0 kq e6 e3 e1 d6 d4 e4 e2 e0 d5 = some (r1, r2, r3, r4)) ∧ Aside0 (kq ≤ k) ∧ Aside0 (wc.heap[a2]? = some (.cells #[.int .i64 e3, .int .i64 e1, .int .i64 d6, .int .i64 d4] 40 (0, 0))) ∧ Aside0 (wc.heap[a5]? = some (.cells #[.int .i64 e4, .int .i64 e2, .int .i64 e0, .int .i64 d5] 40 (0, 0))) ∧ Aside0 (wc.heap[a3]? = some (.cells #[.int .i64 0, .int .i64 0, .int .i64 0, .int .i64 0] 40 (0, 0))) ∧ Aside0 (Below w.heap.size w wc))
 case first =>
  have H := f5.out
  clear f5
  replace H := bN H
  obtain ⟨f6, A7, H⟩ := H
  by_cases c8 : f6 = true
  ·subst c8
   rw [if_pos rfl] at H
   replace H := bN H
   obtain ⟨f0, A9, H⟩ := H
   have H' := aM H
   clear H
   have hnb10 := nP a9 b0
   have hnb11 := nP a6 a7
   have hz12 := cz4 a8
   go_wp2_with (first | ((with_reducible refine gC 116 ?_); refine cM (some 7) Tryz.func116 (impl_BoxOk.calls e3 e1 d6 d4 _ _ A7.out) ?_; rintro e f9 ⟨rfl, hb⟩; refine ⟨_, rfl, ?_⟩; replace a8 := kB_ a2 hb; replace d2 := kB_ a5 hb; replace d3 := kB_ a3 hb; replace HB := hB hb; (try clear hb); have hnb14 := nP b1 b2; have hz15 := cz4 d2) | (go_at_call 116; (with_reducible refine (impl_BoxOk.calls e4 e2 e0 d5 f0 _ A9.out).mono ?_); rintro e g0 ⟨rfl, hb⟩; replace a8 := kB_ a2 hb; replace d2 := kB_ a5 hb; replace d3 := kB_ a3 hb; replace HB := hB hb; (try clear hb)))
   go_meet
   case rel => exact ⟨_, (!f0), fS, H', ⟨by first | omega | exact Nat.le_refl _⟩, ⟨kS⟩, ⟨kS⟩, ⟨kS⟩, ⟨bS⟩⟩
  ·obtain rfl := Bool.eq_false_iff.mpr c8
   rw [if_neg nF] at H
   have H' := aM H
   clear H
   have hnb17 := nP a9 b0
   have hnb18 := nP a6 a7
   have hz19 := cz4 a8
   go_wp2_with (first | ((with_reducible refine gC 116 ?_); refine cM (some 7) Tryz.func116 (impl_BoxOk.calls e3 e1 d6 d4 _ _ A7.out) ?_; rintro e g1 ⟨rfl, hb⟩; refine ⟨_, rfl, ?_⟩; replace a8 := kB_ a2 hb; replace d2 := kB_ a5 hb; replace d3 := kB_ a3 hb; replace HB := hB hb; (try clear hb)))
   go_meet
   case rel => exact ⟨_, (true), fS, H', ⟨by first | omega | exact Nat.le_refl _⟩, ⟨kS⟩, ⟨kS⟩, ⟨kS⟩, ⟨bS⟩⟩
 case rest =>
  clear f5
  try clear c1
  try clear p2
  try clear c8
  try clear c9
  try clear c10
  try clear g2
  try clear g3
  try clear g4
  try clear g5
  obtain ⟨kq, e6, rfl, HA, HJ2, a8, d2, d3, HB⟩ := hcut
  cases kq with
  | zero => exact absurd HA.out (by simp [impl_MeetBox.j0])
  | succ kj2 =>
   have H := HA.out
   clear HA
   simp only [impl_MeetBox.j0] at H
   by_cases f7 : e6 = true
   ·subst f7
    rw [if_pos rfl] at H
    obtain ⟨rfl, rfl, rfl, rfl⟩ := sI4 H
    have hnb22 := nP a7 a6
    have hnb23 := nP b2 b1
    have hz24 := cz4 d3
    go_wp2
    refine bodyPost_ret (results_cell_row rfl _ _ a3 40 #[.int .i64 0, .int .i64 0, .int .i64 0, .int .i64 0] (0, 0) _ rfl kS Tryz.underlying40 rfl (by kernel_rfl)) rfl ?_
    exact ⟨eS, bS⟩
   ·obtain rfl := Bool.eq_false_iff.mpr f7
    rw [if_neg nF] at H
    obtain ⟨ji25, hji25⟩ : ∃ j_ : Int, (mx e3 e4) = j_ := ⟨_, rfl⟩
    replace H : (if (ji25) ≥ (mn d6 e0) then (some (0, 0, 0, 0)) else (if (mx e1 e2) ≥ (mn d4 d5) then (some (0, 0, 0, 0)) else (some (ji25, mx e1 e2, mn d6 e0, mn d4 d5)))) = some (r1, r2, r3, r4) := by first | (rw [hji25] at H; exact H) | (simp only [hji25] at H ⊢; exact H)
    have hji25_ : (if e3 < e4 then e4 else e3) = ji25 := hji25
    obtain ⟨ji26, hji26⟩ : ∃ j_ : Int, (mx e1 e2) = j_ := ⟨_, rfl⟩
    replace H : (if (ji25) ≥ (mn d6 e0) then (some (0, 0, 0, 0)) else (if (ji26) ≥ (mn d4 d5) then (some (0, 0, 0, 0)) else (some (ji25, ji26, mn d6 e0, mn d4 d5)))) = some (r1, r2, r3, r4) := by first | (rw [hji26] at H; exact H) | (simp only [hji26] at H ⊢; exact H)
    have hji26_ : (if e1 < e2 then e2 else e1) = ji26 := hji26
    obtain ⟨ji27, hji27⟩ : ∃ j_ : Int, (mn d6 e0) = j_ := ⟨_, rfl⟩
    replace H : (if (ji25) ≥ (ji27) then (some (0, 0, 0, 0)) else (if (ji26) ≥ (mn d4 d5) then (some (0, 0, 0, 0)) else (some (ji25, ji26, ji27, mn d4 d5)))) = some (r1, r2, r3, r4) := by first | (rw [hji27] at H; exact H) | (simp only [hji27] at H ⊢; exact H)
    have hji27_ : (if e0 < d6 then e0 else d6) = ji27 := hji27
    obtain ⟨ji28, hji28⟩ : ∃ j_ : Int, (mn d4 d5) = j_ := ⟨_, rfl⟩
    replace H : (if (ji25) ≥ (ji27) then (some (0, 0, 0, 0)) else (if (ji26) ≥ (ji28) then (some (0, 0, 0, 0)) else (some (ji25, ji26, ji27, ji28)))) = some (r1, r2, r3, r4) := by first | (rw [hji28] at H; exact H) | (simp only [hji28] at H ⊢; exact H)
    have hji28_ : (if d5 < d4 then d5 else d4) = ji28 := hji28
    by_cases e8 : (ji25) ≥ (ji27)
    ·rw [if_pos e8] at H
     have f3 : decide ((ji27) ≤ (ji25)) = true := decide_eq_true e8
     clear e8
     obtain ⟨rfl, rfl, rfl, rfl⟩ := sI4 H
     have hnb30 := nP a9 b0
     have hnb31 := nP a6 a7
     have hz32 := cz4 a8
     have hnb33 := nP b1 b2
     have hz34 := cz4 d2
     go_wp2_with (first | ((with_reducible refine gD 5 ?_); refine bxE #[.int .i64 0, .int .i64 0, .int .i64 0, .int .i64 0] 40 ?_; intro e7 hg g6 e5 hb; have GE871 := gE hg; have b6 := nL_ a2 hg; have b7 := nG_ a2 hg; have b8 := nL_ a5 hg; have b9 := nG_ a5 hg; have d0 := nL_ a3 hg; have d1 := nG_ a3 hg; replace a8 := kB_ a2 hb; replace d2 := kB_ a5 hb; replace d3 := kB_ a3 hb; replace HB := hB hb; clear hb hg; have hnb36 := nP b7 b6; have hnb37 := nP b9 b8; have hnb38 := nP d1 d0; have hz39 := cz4 e5; have hz40 := cz4 d3))
     refine bodyPost_ret (results_cell_row rfl _ _ a3 40 #[.int .i64 0, .int .i64 0, .int .i64 0, .int .i64 0] (0, 0) _ rfl kS Tryz.underlying40 rfl (by kernel_rfl)) rfl ?_
     exact ⟨by first | rfl | (simp [errW_none, errW_some] <;> rfl) | (simp only [← hji25, ← hji26, ← hji27, ← hji28]; first | rfl | (simp [errW_none, errW_some] <;> rfl)) | (simp [*, errW_none, errW_some] <;> rfl), bS⟩
    ·rw [if_neg e8] at H
     have f3 : decide ((ji27) ≤ (ji25)) = false := decide_eq_false e8
     clear e8
     by_cases e9 : (ji26) ≥ (ji28)
     ·rw [if_pos e9] at H
      have f4 : decide ((ji28) ≤ (ji26)) = true := decide_eq_true e9
      clear e9
      obtain ⟨rfl, rfl, rfl, rfl⟩ := sI4 H
      have hnb42 := nP a9 b0
      have hnb43 := nP a6 a7
      have hz44 := cz4 a8
      have hnb45 := nP b1 b2
      have hz46 := cz4 d2
      go_wp2_with (first | ((with_reducible refine gD 5 ?_); refine bxE #[.int .i64 0, .int .i64 0, .int .i64 0, .int .i64 0] 40 ?_; intro e7 hg g7 e5 hb; have GE871 := gE hg; have b6 := nL_ a2 hg; have b7 := nG_ a2 hg; have b8 := nL_ a5 hg; have b9 := nG_ a5 hg; have d0 := nL_ a3 hg; have d1 := nG_ a3 hg; replace a8 := kB_ a2 hb; replace d2 := kB_ a5 hb; replace d3 := kB_ a3 hb; replace HB := hB hb; clear hb hg; have hnb48 := nP b7 b6; have hnb49 := nP b9 b8; have hnb50 := nP d1 d0; have hz51 := cz4 e5; have hz52 := cz4 d3))
      refine bodyPost_ret (results_cell_row rfl _ _ a3 40 #[.int .i64 0, .int .i64 0, .int .i64 0, .int .i64 0] (0, 0) _ rfl kS Tryz.underlying40 rfl (by kernel_rfl)) rfl ?_
      exact ⟨by first | rfl | (simp [errW_none, errW_some] <;> rfl) | (simp only [← hji25, ← hji26, ← hji27, ← hji28]; first | rfl | (simp [errW_none, errW_some] <;> rfl)) | (simp [*, errW_none, errW_some] <;> rfl), bS⟩
     ·rw [if_neg e9] at H
      have f4 : decide ((ji28) ≤ (ji26)) = false := decide_eq_false e9
      clear e9
      obtain ⟨rfl, rfl, rfl, rfl⟩ := sI4 H
      have hnb53 := nP a9 b0
      have hnb54 := nP a6 a7
      have hz55 := cz4 a8
      have hnb56 := nP b1 b2
      have hz57 := cz4 d2
      go_wp2_with (first | ((with_reducible refine gD 5 ?_); refine bxE #[.int .i64 0, .int .i64 0, .int .i64 0, .int .i64 0] 40 ?_; intro e7 hg g8 e5 hb; have GE871 := gE hg; have b6 := nL_ a2 hg; have b7 := nG_ a2 hg; have b8 := nL_ a5 hg; have b9 := nG_ a5 hg; have d0 := nL_ a3 hg; have d1 := nG_ a3 hg; replace a8 := kB_ a2 hb; replace d2 := kB_ a5 hb; replace d3 := kB_ a3 hb; replace HB := hB hb; clear hb hg; have hnb59 := nP b7 b6; have hnb60 := nP b9 b8; have hnb61 := nP d1 d0; have hz62 := cz4 e5; have hz63 := cz4 d3))
      refine bodyPost_ret (results_cell_row rfl _ _ a3 40 #[.int .i64 ji25, .int .i64 ji26, .int .i64 ji27, .int .i64 ji28] (0, 0) _ rfl kS Tryz.underlying40 rfl (by kernel_rfl)) rfl ?_
      exact ⟨by first | rfl | (simp [errW_none, errW_some] <;> rfl) | (simp only [← hji25, ← hji26, ← hji27, ← hji28]; first | rfl | (simp [errW_none, errW_some] <;> rfl)) | (simp [*, errW_none, errW_some] <;> rfl), bS⟩
end Go.Proofs.YtjkgponlahfnjaaGreat.QFnExactExecToken
