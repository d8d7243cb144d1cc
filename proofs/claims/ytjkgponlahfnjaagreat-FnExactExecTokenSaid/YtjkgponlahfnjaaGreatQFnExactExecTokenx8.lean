/- Walks of functions of the program, made out of the translation by a program of this session: each answers what its plain function tells, for every input at which that is told. -/
import Derived.Test.YtjkgponlahfnjaaGreatQFnExactExecTokenx0
import Derived.Test.YtjkgponlahfnjaaGreatQFnExactExecTokenx1
namespace Go.Proofs.YtjkgponlahfnjaaGreat.QFnExactExecToken
open Go.RowKit Go.Proofs.YtjkgponlahfnjaaGreatW.PrintWords Go.Proofs.YtjkgponlahfnjaaGreatW.PrintLast Go.Proofs.YtjkgponlahfnjaaGreatW.PrintMore
attribute [local go_sem] max2_int min2_int max_two min_two max_three min_three max_four min_four   -- for this text's walks alone
set_option linter.unusedVariables false
set_option linter.unusedSimpArgs false
set_option maxHeartbeats 8000000
set_option maxRecDepth 100000
/-! ### spec_l03Raw: function 71 -/
def spec_l03Raw.l0 : Nat → Int → Int → Int → Int → Int → Int → Int → Option (Int × Int)
 | 0, _, _, _, _, _, _, _ => none
 | k + 1, x5, x6, x7, a2, a6, a3, a5 => if x7 < a2 then (spec_l03Raw.l0 k (wrap64 (-x6)) x5 (wrap64 (x7 + 1)) a2 a6 a3 a5) else (some (wrap64 (x5 + a3), wrap64 (x6 + a5)))
def spec_l03Raw.f (k : Nat) (a3 : Int) (a2 : Int) (a5 : Int) (a6 : Int) (a7 : Int) (a8 : Int) : Option (Int × Int) := spec_l03Raw.l0 k (wrap64 (a7 * a2)) (wrap64 (a8 * a2)) 0 a3 a2 a5 a6
theorem spec_l03Raw.calls (k : Nat) (b8 : Int) (b1 : Int) (b6 : Int) (b7 : Int) (b9 : Int) (d0 : Int) (r1 : Int) (r2 : Int) (w : World) (h : spec_l03Raw.f k b8 b1 b6 b7 b9 d0 = some (r1, r2)) :
  Calls Tryz.prog 71 #[.agg #[.int .i64 b8, .int .i64 b1, .int .i64 b6, .int .i64 b7], .agg #[.int .i64 b9, .int .i64 d0]] w fun e w' => e = .returned (.agg #[.int .i64 r1, .int .i64 r2]) ∧ Below w.heap.size w w' := by
 have hu38 := Tryz.underlying38
 have hu111 := Tryz.underlying111
 have HB := aM (Below.refl w.heap.size w)
 have H := h
 clear h
 unfold spec_l03Raw.f at H
 have H' := aM H
 clear H
 go_enter Tryz.func71, Tryz.ntmps71
 go_wp2_with (first | ((with_reducible refine gD 2 ?_); refine bxE #[.int .i64 b8, .int .i64 b1, .int .i64 b6, .int .i64 b7] 38 ?_; intro a7 hg w3 a8 hb; have GE308 := gE hg; replace HB := hB hb; clear hb hg) | ((with_reducible refine gD 3 ?_); refine bxE #[.int .i64 b9, .int .i64 d0] 111 ?_; intro b2 hg w4 d1 hb; have GE309 := gE hg; have a2 := nL_ a7 hg; have a3 := nG_ a7 hg; replace a8 := kB_ a7 hb; replace HB := hB hb; clear hb hg) | ((with_reducible refine gD 4 ?_); refine bxE #[.int .i64 0, .int .i64 0] 111 ?_; intro d5 hg w5 d6 hb; have GE310 := gE hg; have a5 := nL_ a7 hg; have a6 := nG_ a7 hg; have a9 := nL_ b2 hg; have b0 := nG_ b2 hg; replace a8 := kB_ a7 hb; replace d1 := kB_ b2 hb; replace HB := hB hb; clear hb hg; have hnb6 := nP a3 a2; have hnb7 := nP a9 b0; have hz8 := cz2 d1; have hnb9 := nP a5 a6; have hz10 := cz4 a8))
 (try simp only [Act.put, List.setIfInBounds_toArray, List.set_cons_zero, List.set_cons_succ])
 go_loopg [5, 6, 7] k (fun kq v5 v6 v7 w' => ∃ (d2 : Int) (d3 : Int) (d4 : Int), v5 = .int .i64 d2 ∧ v6 = .int .i64 d3 ∧ v7 = .int .i64 d4 ∧ Aside0 (spec_l03Raw.l0 kq d2 d3 d4 b8 b1 b6 b7 = some (r1, r2)) ∧ Aside0 (kq ≤ k) ∧ Aside0 (w'.heap[a7]? = some (.cells #[.int .i64 b8, .int .i64 b1, .int .i64 b6, .int .i64 b7] 38 (0, 0))) ∧ Aside0 (w'.heap[b2]? = some (.cells #[.int .i64 b9, .int .i64 d0] 111 (0, 0))) ∧ Aside0 (w'.heap[d5]? = some (.cells #[.int .i64 0, .int .i64 0] 111 (0, 0))) ∧ Aside0 (Below w.heap.size w w'))
 case atStart => exact ⟨(wrap64 (b9 * b1)), (wrap64 (d0 * b1)), (0), fS, fS, fS, H', ⟨Nat.le_refl _⟩, ⟨kS⟩, ⟨kS⟩, ⟨kS⟩, ⟨bS⟩⟩
 case round =>
  clear H'
  try clear p2
  try clear c6
  try clear p6
  try clear c7
  try clear c9
  obtain ⟨d2, d3, d4, rfl, rfl, rfl, HA, e1, a8, d1, d6, HB⟩ := hrel
  cases gk with
  | zero => exact absurd HA.out (by simp [spec_l03Raw.l0])
  | succ k1 =>
   have H := HA.out
   clear HA
   simp only [spec_l03Raw.l0] at H
   rcases iD H with ⟨e0, H⟩ | ⟨e0, H⟩
   ·have H' := aM H
    clear H
    have hnb12 := nP a2 a3
    have hnb13 := nP a5 a6
    have hz14 := cz4 a8
    go_wp2
    go_roundg k1
    case measure => have := e1.out; omega
    case rel => exact ⟨(wrap64 (-d3)), (d2), (wrap64 (d4 + 1)), fS, fS, fS, H', ⟨by have := e1.out; omega⟩, ⟨kS⟩, ⟨kS⟩, ⟨kS⟩, ⟨bS⟩⟩
   ·obtain ⟨rfl, rfl⟩ := sI2 H
    have hnb15 := nP a2 a3
    have hnb16 := nP a5 a6
    have hz17 := cz4 a8
    have hnb18 := nP b0 a9
    have hz19 := cz2 d6
    go_wp2
    refine bodyPost_ret (results_cell_row rfl _ _ d5 111 #[.int .i64 (wrap64 (d2 + b6)), .int .i64 (wrap64 (d3 + b7))] (0, 0) _ rfl kS Tryz.underlying111 rfl (by kernel_rfl)) rfl ?_
    exact ⟨eS, bS⟩
def spec_MeetBox.f (a2 : Int) (a3 : Int) (a5 : Int) (a6 : Int) (a7 : Int) (a8 : Int) (a9 : Int) (b0 : Int) : Option (Int × Int × Int × Int) := (spec_BoxOk.f a2 a3 a5 a6).bind fun b1 => (if b1 = true then ((spec_BoxOk.f a7 a8 a9 b0).bind fun b2 => (if b2 = true then (if (mx a2 a7) ≥ (mn a5 a9) then (some (0, 0, 0, 0)) else (if (mx a3 a8) ≥ (mn a6 b0) then (some (0, 0, 0, 0)) else (some (mx a2 a7, mx a3 a8, mn a5 a9, mn a6 b0)))) else (some (0, 0, 0, 0)))) else (some (0, 0, 0, 0)))
theorem spec_MeetBox.lf0 {p : Prop} (h : p := by
 go_enter Tryz.func72, Tryz.ntmps72
 go_wp2_with (first | ((with_reducible refine gD 2 ?_); refine bxE #[.int .i64 e4, .int .i64 e2, .int .i64 e0, .int .i64 d5] 40 ?_; intro a2 hg f6 a5 hb; have GE311 := gE hg; replace HB := hB hb; clear hb hg) | ((with_reducible refine gD 3 ?_); refine bxE #[.int .i64 e5, .int .i64 e3, .int .i64 e1, .int .i64 d6] 40 ?_; intro a3 hg f7 a7 hb; have GE312 := gE hg; have a9 := nL_ a2 hg; have b0 := nG_ a2 hg; replace a5 := kB_ a2 hb; replace HB := hB hb; clear hb hg) | ((with_reducible refine gD 4 ?_); refine bxE #[.int .i64 0, .int .i64 0, .int .i64 0, .int .i64 0] 40 ?_; intro a6 hg f8 a8 hb; have GE313 := gE hg; have b1 := nL_ a2 hg; have b2 := nG_ a2 hg; have b6 := nL_ a3 hg; have b7 := nG_ a3 hg; replace a5 := kB_ a2 hb; replace a7 := kB_ a3 hb; replace HB := hB hb; clear hb hg; have hnb15 := nP a9 b0; have hnb16 := nP b1 b2; have hz17 := cz4 a5; have hnb18 := nP b6 b7; have hz19 := cz4 a7) | ((with_reducible refine gD 5 ?_); refine bxE #[.int .i64 0, .int .i64 0, .int .i64 0, .int .i64 0] 40 ?_; intro e6 hg f9 d4 hb; have GE314 := gE hg; have b8 := nL_ a2 hg; have b9 := nG_ a2 hg; have d0 := nL_ a3 hg; have d1 := nG_ a3 hg; have d2 := nL_ a6 hg; have d3 := nG_ a6 hg; replace a5 := kB_ a2 hb; replace a7 := kB_ a3 hb; replace a8 := kB_ a6 hb; replace HB := hB hb; clear hb hg; have hnb21 := nP b9 b8; have hnb22 := nP d1 d0; have hnb23 := nP d3 d2; have hz24 := cz4 d4; have hz25 := cz4 a5) | ((with_reducible refine gC 111 ?_); refine cM (some 28) Tryz.func111 (spec_BoxOk.calls e4 e2 e0 d5 _ _ A7.out) ?_; rintro e g0 ⟨rfl, hb⟩; refine ⟨_, rfl, ?_⟩; replace a5 := kB_ a2 hb; replace a7 := kB_ a3 hb; replace a8 := kB_ a6 hb; replace d4 := kO e6 #[.int .i64 ji3, .int .i64 ji4, .int .i64 ji5, .int .i64 ji6] 40 hb; replace HB := hB hb; (try clear hb); have hz27 := cz4 a7) | (go_at_call 111; (with_reducible refine (spec_BoxOk.calls e5 e3 e1 d6 _ _ A9.out).mono ?_); rintro e g1 ⟨rfl, hb⟩; replace a5 := kB_ a2 hb; replace a7 := kB_ a3 hb; replace a8 := kB_ a6 hb; replace d4 := kB_ e6 hb; replace HB := hB hb; (try clear hb); have hz29 := cz4 d4; have hz30 := cz4 a8))
 refine bodyPost_ret (results_cell_row rfl _ _ a6 40 #[.int .i64 0, .int .i64 0, .int .i64 0, .int .i64 0] (0, 0) _ rfl kS Tryz.underlying40 rfl (by kernel_rfl)) rfl ?_
 exact ⟨by first | rfl | (simp [errW_none, errW_some] <;> rfl) | (simp only [← hji3, ← hji4, ← hji5, ← hji6]; first | rfl | (simp [errW_none, errW_some] <;> rfl)) | (simp [*, errW_none, errW_some] <;> rfl), bS⟩) : p := h
theorem spec_MeetBox.calls (e4 : Int) (e2 : Int) (e0 : Int) (d5 : Int) (e5 : Int) (e3 : Int) (e1 : Int) (d6 : Int) (r1 : Int) (r2 : Int) (r3 : Int) (r4 : Int) (w : World) (h : spec_MeetBox.f e4 e2 e0 d5 e5 e3 e1 d6 = some (r1, r2, r3, r4)) :
  Calls Tryz.prog 72 #[.agg #[.int .i64 e4, .int .i64 e2, .int .i64 e0, .int .i64 d5], .agg #[.int .i64 e5, .int .i64 e3, .int .i64 e1, .int .i64 d6]] w fun e w' => e = .returned (.agg #[.int .i64 r1, .int .i64 r2, .int .i64 r3, .int .i64 r4]) ∧ Below w.heap.size w w' := by
 have hu40 := Tryz.underlying40
 have HB := aM (Below.refl w.heap.size w)
 have H := h
 clear h
 unfold spec_MeetBox.f at H
 obtain ⟨ji3, hji3⟩ : ∃ j_ : Int, (mx e4 e5) = j_ := ⟨_, rfl⟩
 replace H : ((spec_BoxOk.f e4 e2 e0 d5).bind fun e7 => (if e7 = true then ((spec_BoxOk.f e5 e3 e1 d6).bind fun e8 => (if e8 = true then (if (ji3) ≥ (mn e0 e1) then (some (0, 0, 0, 0)) else (if (mx e2 e3) ≥ (mn d5 d6) then (some (0, 0, 0, 0)) else (some (ji3, mx e2 e3, mn e0 e1, mn d5 d6)))) else (some (0, 0, 0, 0)))) else (some (0, 0, 0, 0)))) = some (r1, r2, r3, r4) := by first | (rw [hji3] at H; exact H) | (simp only [hji3] at H ⊢; exact H)
 have hji3_ : (if e4 < e5 then e5 else e4) = ji3 := hji3
 obtain ⟨ji4, hji4⟩ : ∃ j_ : Int, (mx e2 e3) = j_ := ⟨_, rfl⟩
 replace H : ((spec_BoxOk.f e4 e2 e0 d5).bind fun e7 => (if e7 = true then ((spec_BoxOk.f e5 e3 e1 d6).bind fun e8 => (if e8 = true then (if (ji3) ≥ (mn e0 e1) then (some (0, 0, 0, 0)) else (if (ji4) ≥ (mn d5 d6) then (some (0, 0, 0, 0)) else (some (ji3, ji4, mn e0 e1, mn d5 d6)))) else (some (0, 0, 0, 0)))) else (some (0, 0, 0, 0)))) = some (r1, r2, r3, r4) := by first | (rw [hji4] at H; exact H) | (simp only [hji4] at H ⊢; exact H)
 have hji4_ : (if e2 < e3 then e3 else e2) = ji4 := hji4
 obtain ⟨ji5, hji5⟩ : ∃ j_ : Int, (mn e0 e1) = j_ := ⟨_, rfl⟩
 replace H : ((spec_BoxOk.f e4 e2 e0 d5).bind fun e7 => (if e7 = true then ((spec_BoxOk.f e5 e3 e1 d6).bind fun e8 => (if e8 = true then (if (ji3) ≥ (ji5) then (some (0, 0, 0, 0)) else (if (ji4) ≥ (mn d5 d6) then (some (0, 0, 0, 0)) else (some (ji3, ji4, ji5, mn d5 d6)))) else (some (0, 0, 0, 0)))) else (some (0, 0, 0, 0)))) = some (r1, r2, r3, r4) := by first | (rw [hji5] at H; exact H) | (simp only [hji5] at H ⊢; exact H)
 have hji5_ : (if e1 < e0 then e1 else e0) = ji5 := hji5
 obtain ⟨ji6, hji6⟩ : ∃ j_ : Int, (mn d5 d6) = j_ := ⟨_, rfl⟩
 replace H : ((spec_BoxOk.f e4 e2 e0 d5).bind fun e7 => (if e7 = true then ((spec_BoxOk.f e5 e3 e1 d6).bind fun e8 => (if e8 = true then (if (ji3) ≥ (ji5) then (some (0, 0, 0, 0)) else (if (ji4) ≥ (ji6) then (some (0, 0, 0, 0)) else (some (ji3, ji4, ji5, ji6)))) else (some (0, 0, 0, 0)))) else (some (0, 0, 0, 0)))) = some (r1, r2, r3, r4) := by first | (rw [hji6] at H; exact H) | (simp only [hji6] at H ⊢; exact H)
 have hji6_ : (if d6 < d5 then d6 else d5) = ji6 := hji6
 replace H := bN H
 obtain ⟨e7, A7, H⟩ := H
 by_cases c8 : e7 = true
 ·subst c8
  rw [if_pos rfl] at H
  replace H := bN H
  obtain ⟨e8, A9, H⟩ := H
  by_cases c10 : e8 = true
  ·subst c10
   rw [if_pos rfl] at H
   by_cases e9 : (ji3) ≥ (ji5)
   ·rw [if_pos e9] at H
    have f3 : decide ((ji5) ≤ (ji3)) = true := decide_eq_true e9
    clear e9
    obtain ⟨rfl, rfl, rfl, rfl⟩ := sI4 H
    exact spec_MeetBox.lf0
   ·rw [if_neg e9] at H
    have f3 : decide ((ji5) ≤ (ji3)) = false := decide_eq_false e9
    clear e9
    by_cases f0 : (ji4) ≥ (ji6)
    ·rw [if_pos f0] at H
     have f4 : decide ((ji6) ≤ (ji4)) = true := decide_eq_true f0
     clear f0
     obtain ⟨rfl, rfl, rfl, rfl⟩ := sI4 H
     exact spec_MeetBox.lf0
    ·rw [if_neg f0] at H
     have f4 : decide ((ji6) ≤ (ji4)) = false := decide_eq_false f0
     clear f0
     obtain ⟨rfl, rfl, rfl, rfl⟩ := sI4 H
     go_enter Tryz.func72, Tryz.ntmps72
     go_wp2_with (first | ((with_reducible refine gD 2 ?_); refine bxE #[.int .i64 e4, .int .i64 e2, .int .i64 e0, .int .i64 d5] 40 ?_; intro a2 hg g2 a5 hb; have GE311 := gE hg; replace HB := hB hb; clear hb hg) | ((with_reducible refine gD 3 ?_); refine bxE #[.int .i64 e5, .int .i64 e3, .int .i64 e1, .int .i64 d6] 40 ?_; intro a3 hg g3 a7 hb; have GE312 := gE hg; have a9 := nL_ a2 hg; have b0 := nG_ a2 hg; replace a5 := kB_ a2 hb; replace HB := hB hb; clear hb hg) | ((with_reducible refine gD 4 ?_); refine bxE #[.int .i64 0, .int .i64 0, .int .i64 0, .int .i64 0] 40 ?_; intro a6 hg g4 a8 hb; have GE313 := gE hg; have b1 := nL_ a2 hg; have b2 := nG_ a2 hg; have b6 := nL_ a3 hg; have b7 := nG_ a3 hg; replace a5 := kB_ a2 hb; replace a7 := kB_ a3 hb; replace HB := hB hb; clear hb hg; have hnb54 := nP a9 b0; have hnb55 := nP b1 b2; have hz56 := cz4 a5; have hnb57 := nP b6 b7; have hz58 := cz4 a7) | ((with_reducible refine gD 5 ?_); refine bxE #[.int .i64 0, .int .i64 0, .int .i64 0, .int .i64 0] 40 ?_; intro e6 hg g5 d4 hb; have GE314 := gE hg; have b8 := nL_ a2 hg; have b9 := nG_ a2 hg; have d0 := nL_ a3 hg; have d1 := nG_ a3 hg; have d2 := nL_ a6 hg; have d3 := nG_ a6 hg; replace a5 := kB_ a2 hb; replace a7 := kB_ a3 hb; replace a8 := kB_ a6 hb; replace HB := hB hb; clear hb hg; have hnb60 := nP b9 b8; have hnb61 := nP d1 d0; have hnb62 := nP d3 d2; have hz63 := cz4 d4; have hz64 := cz4 a5) | ((with_reducible refine gC 111 ?_); refine cM (some 28) Tryz.func111 (spec_BoxOk.calls e4 e2 e0 d5 _ _ A7.out) ?_; rintro e g6 ⟨rfl, hb⟩; refine ⟨_, rfl, ?_⟩; replace a5 := kB_ a2 hb; replace a7 := kB_ a3 hb; replace a8 := kB_ a6 hb; replace d4 := kO e6 #[.int .i64 ji3, .int .i64 ji4, .int .i64 ji5, .int .i64 ji6] 40 hb; replace HB := hB hb; (try clear hb); have hz66 := cz4 a7) | (go_at_call 111; (with_reducible refine (spec_BoxOk.calls e5 e3 e1 d6 _ _ A9.out).mono ?_); rintro e g7 ⟨rfl, hb⟩; replace a5 := kB_ a2 hb; replace a7 := kB_ a3 hb; replace a8 := kB_ a6 hb; replace d4 := kB_ e6 hb; replace HB := hB hb; (try clear hb); have hz68 := cz4 d4; have hz69 := cz4 a8))
     refine bodyPost_ret (results_cell_row rfl _ _ a6 40 #[.int .i64 ji3, .int .i64 ji4, .int .i64 ji5, .int .i64 ji6] (0, 0) _ rfl kS Tryz.underlying40 rfl (by kernel_rfl)) rfl ?_
     exact ⟨by first | rfl | (simp [errW_none, errW_some] <;> rfl) | (simp only [← hji3, ← hji4, ← hji5, ← hji6]; first | rfl | (simp [errW_none, errW_some] <;> rfl)) | (simp [*, errW_none, errW_some] <;> rfl), bS⟩
  ·obtain rfl := Bool.eq_false_iff.mpr c10
   rw [if_neg nF] at H
   obtain ⟨rfl, rfl, rfl, rfl⟩ := sI4 H
   go_enter Tryz.func72, Tryz.ntmps72
   go_wp2_with (first | ((with_reducible refine gD 2 ?_); refine bxE #[.int .i64 e4, .int .i64 e2, .int .i64 e0, .int .i64 d5] 40 ?_; intro a2 hg g8 a5 hb; have GE311 := gE hg; replace HB := hB hb; clear hb hg) | ((with_reducible refine gD 3 ?_); refine bxE #[.int .i64 e5, .int .i64 e3, .int .i64 e1, .int .i64 d6] 40 ?_; intro a3 hg g9 a7 hb; have GE312 := gE hg; have a9 := nL_ a2 hg; have b0 := nG_ a2 hg; replace a5 := kB_ a2 hb; replace HB := hB hb; clear hb hg) | ((with_reducible refine gD 4 ?_); refine bxE #[.int .i64 0, .int .i64 0, .int .i64 0, .int .i64 0] 40 ?_; intro a6 hg h0 a8 hb; have GE313 := gE hg; have b1 := nL_ a2 hg; have b2 := nG_ a2 hg; have b6 := nL_ a3 hg; have b7 := nG_ a3 hg; replace a5 := kB_ a2 hb; replace a7 := kB_ a3 hb; replace HB := hB hb; clear hb hg; have hnb73 := nP a9 b0; have hnb74 := nP b1 b2; have hz75 := cz4 a5; have hnb76 := nP b6 b7; have hz77 := cz4 a7) | ((with_reducible refine gD 5 ?_); refine bxE #[.int .i64 0, .int .i64 0, .int .i64 0, .int .i64 0] 40 ?_; intro e6 hg h1 d4 hb; have GE314 := gE hg; have b8 := nL_ a2 hg; have b9 := nG_ a2 hg; have d0 := nL_ a3 hg; have d1 := nG_ a3 hg; have d2 := nL_ a6 hg; have d3 := nG_ a6 hg; replace a5 := kB_ a2 hb; replace a7 := kB_ a3 hb; replace a8 := kB_ a6 hb; replace HB := hB hb; clear hb hg; have hnb79 := nP b9 b8; have hnb80 := nP d1 d0; have hnb81 := nP d3 d2; have hz82 := cz4 d4; have hz83 := cz4 a5) | ((with_reducible refine gC 111 ?_); refine cM (some 28) Tryz.func111 (spec_BoxOk.calls e4 e2 e0 d5 _ _ A7.out) ?_; rintro e h2 ⟨rfl, hb⟩; refine ⟨_, rfl, ?_⟩; replace a5 := kB_ a2 hb; replace a7 := kB_ a3 hb; replace a8 := kB_ a6 hb; replace d4 := kO e6 #[.int .i64 ji3, .int .i64 ji4, .int .i64 ji5, .int .i64 ji6] 40 hb; replace HB := hB hb; (try clear hb); have hz85 := cz4 a7) | (go_at_call 111; (with_reducible refine (spec_BoxOk.calls e5 e3 e1 d6 _ _ A9.out).mono ?_); rintro e h3 ⟨rfl, hb⟩; replace a5 := kB_ a2 hb; replace a7 := kB_ a3 hb; replace a8 := kB_ a6 hb; replace d4 := kB_ e6 hb; replace HB := hB hb; (try clear hb); have hz87 := cz4 a8))
   refine bodyPost_ret (results_cell_row rfl _ _ a6 40 #[.int .i64 0, .int .i64 0, .int .i64 0, .int .i64 0] (0, 0) _ rfl kS Tryz.underlying40 rfl (by kernel_rfl)) rfl ?_
   exact ⟨by first | rfl | (simp [errW_none, errW_some] <;> rfl) | (simp only [← hji3, ← hji4, ← hji5, ← hji6]; first | rfl | (simp [errW_none, errW_some] <;> rfl)) | (simp [*, errW_none, errW_some] <;> rfl), bS⟩
 ·obtain rfl := Bool.eq_false_iff.mpr c8
  rw [if_neg nF] at H
  obtain ⟨rfl, rfl, rfl, rfl⟩ := sI4 H
  go_enter Tryz.func72, Tryz.ntmps72
  go_wp2_with (first | ((with_reducible refine gD 2 ?_); refine bxE #[.int .i64 e4, .int .i64 e2, .int .i64 e0, .int .i64 d5] 40 ?_; intro a2 hg h4 a5 hb; have GE311 := gE hg; replace HB := hB hb; clear hb hg) | ((with_reducible refine gD 3 ?_); refine bxE #[.int .i64 e5, .int .i64 e3, .int .i64 e1, .int .i64 d6] 40 ?_; intro a3 hg h5 a7 hb; have GE312 := gE hg; have a9 := nL_ a2 hg; have b0 := nG_ a2 hg; replace a5 := kB_ a2 hb; replace HB := hB hb; clear hb hg) | ((with_reducible refine gD 4 ?_); refine bxE #[.int .i64 0, .int .i64 0, .int .i64 0, .int .i64 0] 40 ?_; intro a6 hg h6 a8 hb; have GE313 := gE hg; have b1 := nL_ a2 hg; have b2 := nG_ a2 hg; have b6 := nL_ a3 hg; have b7 := nG_ a3 hg; replace a5 := kB_ a2 hb; replace a7 := kB_ a3 hb; replace HB := hB hb; clear hb hg; have hnb91 := nP a9 b0; have hnb92 := nP b1 b2; have hz93 := cz4 a5; have hnb94 := nP b6 b7; have hz95 := cz4 a7) | ((with_reducible refine gD 5 ?_); refine bxE #[.int .i64 0, .int .i64 0, .int .i64 0, .int .i64 0] 40 ?_; intro e6 hg h7 d4 hb; have GE314 := gE hg; have b8 := nL_ a2 hg; have b9 := nG_ a2 hg; have d0 := nL_ a3 hg; have d1 := nG_ a3 hg; have d2 := nL_ a6 hg; have d3 := nG_ a6 hg; replace a5 := kB_ a2 hb; replace a7 := kB_ a3 hb; replace a8 := kB_ a6 hb; replace HB := hB hb; clear hb hg; have hnb97 := nP b9 b8; have hnb98 := nP d1 d0; have hnb99 := nP d3 d2; have hz100 := cz4 d4; have hz101 := cz4 a5) | ((with_reducible refine gC 111 ?_); refine cM (some 28) Tryz.func111 (spec_BoxOk.calls e4 e2 e0 d5 _ _ A7.out) ?_; rintro e f5 ⟨rfl, hb⟩; refine ⟨_, rfl, ?_⟩; replace a5 := kB_ a2 hb; replace a7 := kB_ a3 hb; replace a8 := kB_ a6 hb; replace d4 := kO e6 #[.int .i64 ji3, .int .i64 ji4, .int .i64 ji5, .int .i64 ji6] 40 hb; replace HB := hB hb; (try clear hb); have hz103 := cz4 a8))
  refine bodyPost_ret (results_cell_row rfl _ _ a6 40 #[.int .i64 0, .int .i64 0, .int .i64 0, .int .i64 0] (0, 0) _ rfl kS Tryz.underlying40 rfl (by kernel_rfl)) rfl ?_
  exact ⟨by first | rfl | (simp [errW_none, errW_some] <;> rfl) | (simp only [← hji3, ← hji4, ← hji5, ← hji6]; first | rfl | (simp [errW_none, errW_some] <;> rfl)) | (simp [*, errW_none, errW_some] <;> rfl), bS⟩
def spec_BoxOf.l0 : Nat → List (S111) → Int → Int → Int → Int → Int → Option (Int × Int × Int × Int)
 | 0, _, _, _, _, _, _ => none
 | k + 1, x0, x4, a2, a3, a5, a6 => if x4 < (x0.length : Int) then (if 0 ≤ x4 then ((spec_PointOk.f ((rd_T111 x0 x4).f0) ((rd_T111 x0 x4).f1)).bind fun a7 => (if a7 = true then (if x4 = 0 then (spec_BoxOf.l0 k x0 (wrap64 (x4 + 1)) ((rd_T111 x0 x4).f0) ((rd_T111 x0 x4).f1) ((rd_T111 x0 x4).f0) ((rd_T111 x0 x4).f1)) else (spec_BoxOf.l0 k x0 (wrap64 (x4 + 1)) (mn a2 ((rd_T111 x0 x4).f0)) (mn a3 ((rd_T111 x0 x4).f1)) (mx a5 ((rd_T111 x0 x4).f0)) (mx a6 ((rd_T111 x0 x4).f1)))) else (some (0, 0, 0, 0)))) else (none)) else (some (a2, a3, a5, a6))
def spec_BoxOf.f (k : Nat) (l0 : List (S111)) : Option (Int × Int × Int × Int) := spec_BoxOf.l0 k l0 0 0 0 0 0
theorem spec_BoxOf.calls (k : Nat) (A0 : Option Addr) (c0 : Nat) (l0 : List (S111)) (r1 : Int) (r2 : Int) (r3 : Int) (r4 : Int) (w : World) (hr0 : Kd.C k111 w A0 l0.length l0) (f5 : l0.length ≤ c0) (h : spec_BoxOf.f k l0 = some (r1, r2, r3, r4)) :
  Calls Tryz.prog 73 #[.slice A0 l0.length c0] w fun e w' => e = .returned (.agg #[.int .i64 r1, .int .i64 r2, .int .i64 r3, .int .i64 r4]) ∧ Below w.heap.size w w' := by
 have hu40 := Tryz.underlying40
 have hu111 := Tryz.underlying111
 have e9 := aM hr0
 have f7 := aM f5
 clear hr0 f5
 have HB := aM (Below.refl w.heap.size w)
 have H := h
 clear h
 unfold spec_BoxOf.f at H
 have H' := aM H
 clear H
 go_enter Tryz.func73, Tryz.ntmps73
 go_wp2_with (first | ((with_reducible refine gD 2 ?_); refine bxE #[.int .i64 0, .int .i64 0, .int .i64 0, .int .i64 0] 40 ?_; intro a8 hg w2 d6 hb; have GE317 := gE hg; replace HB := hB hb; clear hb hg) | ((with_reducible refine gD 3 ?_); refine bxE #[.int .i64 0, .int .i64 0, .int .i64 0, .int .i64 0] 40 ?_; intro b1 hg w3 d1 hb; have GE318 := gE hg; have b2 := nL_ a8 hg; have b6 := nG_ a8 hg; replace d6 := kB_ a8 hb; replace HB := hB hb; clear hb hg; have hnb4 := nP b6 b2; have hz5 := cz4 d1))
 (try simp only [Act.put, List.setIfInBounds_toArray, List.set_cons_zero, List.set_cons_succ])
 go_loopg [4] k (fun kq v4 w' => ∃ (a2 : Int) (d2 : Int) (d3 : Int) (d4 : Int) (d5 : Int) (a7 : Int) (a6 : Int) (a5 : Int) (a3 : Int), v4 = .int .i64 a2 ∧ Aside0 (spec_BoxOf.l0 kq l0 a2 a7 a6 a5 a3 = some (r1, r2, r3, r4)) ∧ Aside0 (kq ≤ k) ∧ Aside0 (w'.heap[a8]? = some (.cells #[.int .i64 d2, .int .i64 d3, .int .i64 d4, .int .i64 d5] 40 (0, 0))) ∧ Aside0 (w'.heap[b1]? = some (.cells #[.int .i64 a7, .int .i64 a6, .int .i64 a5, .int .i64 a3] 40 (0, 0))) ∧ Aside0 (Below w.heap.size w w'))
 case atStart => exact ⟨(0), (0), (0), (0), (0), (0), (0), (0), (0), fS, H', ⟨Nat.le_refl _⟩, ⟨kS⟩, ⟨kS⟩, ⟨bS⟩⟩
 case round =>
  clear H'
  try clear p2
  try clear c4
  obtain ⟨a2, d2, d3, d4, d5, a7, a6, a5, a3, rfl, HA, e8, d6, d1, HB⟩ := hrel
  cases gk with
  | zero => exact absurd HA.out (by simp [spec_BoxOf.l0])
  | succ k1 =>
   have H := HA.out
   clear HA
   simp only [spec_BoxOf.l0] at H
   rcases iD H with ⟨f3, H⟩ | ⟨f3, H⟩
   ·obtain ⟨f6, H⟩ := iT H
    replace H := bN H
    obtain ⟨f4, A8, H⟩ := H
    by_cases c9 : f4 = true
    ·subst c9
     rw [if_pos rfl] at H
     by_cases c10 : a2 = 0
     ·rw [if_pos c10] at H
      have e6 : (a2 == 0) = true := beq_iff_eq.mpr c10
      have e7 : (a2 != 0) = false := bne_eq_false_iff_eq.mpr c10
      clear c10
      have H' := aM H
      clear H
      have e1 : 0 ≤ (a2 : Int) := dA
      have e2 : a2 < (l0.length : Int) := dA
      obtain ⟨e5, e4, a9, b0⟩ := at_T111 e9.out a2 e1 e2
      cases e4
      replace a9 := cB HB a9
      replace b0 := cB HB b0
      replace e1 := eq_true e1
      replace e2 := eq_true e2
      go_wp2_with (first | ((with_reducible refine gD 5 ?_); refine bxE #[.int .i64 0, .int .i64 0] 111 ?_; intro e3 hg f8 e0 hb; have GE320 := gE hg; have b7 := nL_ a8 hg; have b8 := nG_ a8 hg; have b9 := nL_ b1 hg; have d0 := nG_ b1 hg; replace d6 := kB_ a8 hb; replace d1 := kB_ b1 hb; replace HB := hB hb; clear hb hg; have hnb12 := nP b8 b7; have hnb13 := nP d0 b9; have hz14 := cz2 e0) | ((with_reducible refine gC 113 ?_); refine cM (some 18) Tryz.func113 (spec_PointOk.calls ((rd_T111 l0 a2).f0) ((rd_T111 l0 a2).f1) _ _ A8.out) ?_; rintro e f9 ⟨rfl, hb⟩; refine ⟨_, rfl, ?_⟩; replace d6 := kB_ a8 hb; replace d1 := kB_ b1 hb; replace e0 := kO e3 #[.int .i64 ((rd_T111 l0 a2).f0), .int .i64 ((rd_T111 l0 a2).f1)] 111 hb; replace HB := hB hb; (try clear hb); have hz16 := cz2 e0; have hnb17 := nP b6 b2; have hz18 := cz4 d1))
      go_roundg k1
      case measure => have := e8.out; omega
      case rel => exact ⟨(wrap64 (a2 + 1)), (d2), (d3), (d4), (d5), ((rd_T111 l0 a2).f0), ((rd_T111 l0 a2).f1), ((rd_T111 l0 a2).f0), ((rd_T111 l0 a2).f1), fS, H', ⟨by have := e8.out; omega⟩, ⟨kS⟩, ⟨by (with_reducible repeat (first | refine blk_drewN ?_ _ | refine blk_drew ?_ | refine blk_alloc ?_ _)); refine blk_put (cs := #[.int .i64 ((rd_T111 l0 a2).f0), .int .i64 ((rd_T111 l0 a2).f1), .int .i64 ((rd_T111 l0 a2).f0), .int .i64 ((rd_T111 l0 a2).f1)]) ?_ 3 _ rfl; (with_reducible repeat (first | refine blk_drewN ?_ _ | refine blk_drew ?_ | refine blk_alloc ?_ _)); refine blk_put (cs := #[.int .i64 ((rd_T111 l0 a2).f0), .int .i64 ((rd_T111 l0 a2).f1), .int .i64 ((rd_T111 l0 a2).f0), .int .i64 ((rd_T111 l0 a2).f1)]) ?_ 2 _ rfl; (with_reducible repeat (first | refine blk_drewN ?_ _ | refine blk_drew ?_ | refine blk_alloc ?_ _)); refine blk_put (cs := #[.int .i64 ((rd_T111 l0 a2).f0), .int .i64 ((rd_T111 l0 a2).f1), .int .i64 ((rd_T111 l0 a2).f0), .int .i64 ((rd_T111 l0 a2).f1)]) ?_ 1 _ rfl; (with_reducible repeat (first | refine blk_drewN ?_ _ | refine blk_drew ?_ | refine blk_alloc ?_ _)); refine blk_put (cs := #[.int .i64 ((rd_T111 l0 a2).f0), .int .i64 ((rd_T111 l0 a2).f1), .int .i64 ((rd_T111 l0 a2).f0), .int .i64 ((rd_T111 l0 a2).f1)]) ?_ 0 _ rfl; (with_reducible repeat (first | refine blk_drewN ?_ _ | refine blk_drew ?_ | refine blk_alloc ?_ _)); refine blk_put (cs := #[.int .i64 ((rd_T111 l0 a2).f0), .int .i64 ((rd_T111 l0 a2).f1), .int .i64 ((rd_T111 l0 a2).f0), .int .i64 a3]) ?_ 3 _ rfl; (with_reducible repeat (first | refine blk_drewN ?_ _ | refine blk_drew ?_ | refine blk_alloc ?_ _)); refine blk_put (cs := #[.int .i64 ((rd_T111 l0 a2).f0), .int .i64 ((rd_T111 l0 a2).f1), .int .i64 a5, .int .i64 a3]) ?_ 2 _ rfl; (with_reducible repeat (first | refine blk_drewN ?_ _ | refine blk_drew ?_ | refine blk_alloc ?_ _)); refine blk_put (cs := #[.int .i64 ((rd_T111 l0 a2).f0), .int .i64 a6, .int .i64 a5, .int .i64 a3]) ?_ 1 _ rfl; (with_reducible repeat (first | refine blk_drewN ?_ _ | refine blk_drew ?_ | refine blk_alloc ?_ _)); refine blk_put (cs := #[.int .i64 a7, .int .i64 a6, .int .i64 a5, .int .i64 a3]) ?_ 0 _ rfl; (with_reducible repeat (first | refine blk_drewN ?_ _ | refine blk_drew ?_ | refine blk_alloc ?_ _)); exact d1.out⟩, ⟨bS⟩⟩
     ·rw [if_neg c10] at H
      have e6 : (a2 == 0) = false := beq_eq_false_iff_ne.mpr c10
      have e7 : (a2 != 0) = true := bne_iff_ne.mpr c10
      obtain ⟨ji19, hji19⟩ : ∃ j_ : Int, (mn a7 ((rd_T111 l0 a2).f0)) = j_ := ⟨_, rfl⟩
      replace H : (spec_BoxOf.l0 k1 l0 (wrap64 (a2 + 1)) ji19 (mn a6 ((rd_T111 l0 a2).f1)) (mx a5 ((rd_T111 l0 a2).f0)) (mx a3 ((rd_T111 l0 a2).f1))) = some (r1, r2, r3, r4) := by first | (rw [hji19] at H; exact H) | (simp only [hji19] at H ⊢; exact H)
      (try rw [hji19] at A8)
      have hji19_ : (if ((rd_T111 l0 a2).f0) < a7 then ((rd_T111 l0 a2).f0) else a7) = ji19 := hji19
      obtain ⟨ji20, hji20⟩ : ∃ j_ : Int, (mn a6 ((rd_T111 l0 a2).f1)) = j_ := ⟨_, rfl⟩
      replace H : (spec_BoxOf.l0 k1 l0 (wrap64 (a2 + 1)) ji19 ji20 (mx a5 ((rd_T111 l0 a2).f0)) (mx a3 ((rd_T111 l0 a2).f1))) = some (r1, r2, r3, r4) := by first | (rw [hji20] at H; exact H) | (simp only [hji20] at H ⊢; exact H)
      (try rw [hji20] at A8)
      have hji20_ : (if ((rd_T111 l0 a2).f1) < a6 then ((rd_T111 l0 a2).f1) else a6) = ji20 := hji20
      obtain ⟨ji21, hji21⟩ : ∃ j_ : Int, (mx a5 ((rd_T111 l0 a2).f0)) = j_ := ⟨_, rfl⟩
      replace H : (spec_BoxOf.l0 k1 l0 (wrap64 (a2 + 1)) ji19 ji20 ji21 (mx a3 ((rd_T111 l0 a2).f1))) = some (r1, r2, r3, r4) := by first | (rw [hji21] at H; exact H) | (simp only [hji21] at H ⊢; exact H)
      (try rw [hji21] at A8)
      have hji21_ : (if a5 < ((rd_T111 l0 a2).f0) then ((rd_T111 l0 a2).f0) else a5) = ji21 := hji21
      obtain ⟨ji22, hji22⟩ : ∃ j_ : Int, (mx a3 ((rd_T111 l0 a2).f1)) = j_ := ⟨_, rfl⟩
      replace H : (spec_BoxOf.l0 k1 l0 (wrap64 (a2 + 1)) ji19 ji20 ji21 ji22) = some (r1, r2, r3, r4) := by first | (rw [hji22] at H; exact H) | (simp only [hji22] at H ⊢; exact H)
      (try rw [hji22] at A8)
      have hji22_ : (if a3 < ((rd_T111 l0 a2).f1) then ((rd_T111 l0 a2).f1) else a3) = ji22 := hji22
      have H' := aM H
      clear H
      have e1 : 0 ≤ (a2 : Int) := dA
      have e2 : a2 < (l0.length : Int) := dA
      obtain ⟨e5, e4, a9, b0⟩ := at_T111 e9.out a2 e1 e2
      cases e4
      replace a9 := cB HB a9
      replace b0 := cB HB b0
      replace e1 := eq_true e1
      replace e2 := eq_true e2
      go_wp2_with (first | ((with_reducible refine gD 5 ?_); refine bxE #[.int .i64 0, .int .i64 0] 111 ?_; intro e3 hg g0 e0 hb; have GE320 := gE hg; have b7 := nL_ a8 hg; have b8 := nG_ a8 hg; have b9 := nL_ b1 hg; have d0 := nG_ b1 hg; replace d6 := kB_ a8 hb; replace d1 := kB_ b1 hb; replace HB := hB hb; clear hb hg; have hnb24 := nP b8 b7; have hnb25 := nP d0 b9; have hz26 := cz2 e0) | ((with_reducible refine gC 113 ?_); refine cM (some 18) Tryz.func113 (spec_PointOk.calls ((rd_T111 l0 a2).f0) ((rd_T111 l0 a2).f1) _ _ A8.out) ?_; rintro e g1 ⟨rfl, hb⟩; refine ⟨_, rfl, ?_⟩; replace d6 := kB_ a8 hb; replace d1 := kB_ b1 hb; replace e0 := kO e3 #[.int .i64 ((rd_T111 l0 a2).f0), .int .i64 ((rd_T111 l0 a2).f1)] 111 hb; replace HB := hB hb; (try clear hb); have hnb28 := nP b6 b2; have hz29 := cz4 d1; have hz30 := cz2 e0))
      go_roundg k1
      case measure => have := e8.out; omega
      case rel => exact ⟨(wrap64 (a2 + 1)), (d2), (d3), (d4), (d5), (ji19), (ji20), (ji21), (ji22), fS, H', ⟨by have := e8.out; omega⟩, ⟨kS⟩, ⟨kS⟩, ⟨bS⟩⟩
    ·obtain rfl := Bool.eq_false_iff.mpr c9
     rw [if_neg nF] at H
     obtain ⟨rfl, rfl, rfl, rfl⟩ := sI4 H
     have e1 : 0 ≤ (a2 : Int) := dA
     have e2 : a2 < (l0.length : Int) := dA
     obtain ⟨e5, e4, a9, b0⟩ := at_T111 e9.out a2 e1 e2
     cases e4
     replace a9 := cB HB a9
     replace b0 := cB HB b0
     replace e1 := eq_true e1
     replace e2 := eq_true e2
     go_wp2_with (first | ((with_reducible refine gD 5 ?_); refine bxE #[.int .i64 0, .int .i64 0] 111 ?_; intro e3 hg g2 e0 hb; have GE320 := gE hg; have b7 := nL_ a8 hg; have b8 := nG_ a8 hg; have b9 := nL_ b1 hg; have d0 := nG_ b1 hg; replace d6 := kB_ a8 hb; replace d1 := kB_ b1 hb; replace HB := hB hb; clear hb hg; have hnb32 := nP b8 b7; have hnb33 := nP d0 b9; have hz34 := cz2 e0) | ((with_reducible refine gC 113 ?_); refine cM (some 18) Tryz.func113 (spec_PointOk.calls ((rd_T111 l0 a2).f0) ((rd_T111 l0 a2).f1) _ _ A8.out) ?_; rintro e g3 ⟨rfl, hb⟩; refine ⟨_, rfl, ?_⟩; replace d6 := kB_ a8 hb; replace d1 := kB_ b1 hb; replace e0 := kO e3 #[.int .i64 ((rd_T111 l0 a2).f0), .int .i64 ((rd_T111 l0 a2).f1)] 111 hb; replace HB := hB hb; (try clear hb); have hnb36 := nP b2 b6; have hz37 := cz4 d6))
     refine bodyPost_ret (results_cell_row rfl _ _ a8 40 #[.int .i64 0, .int .i64 0, .int .i64 0, .int .i64 0] (0, 0) _ rfl kS Tryz.underlying40 rfl (by kernel_rfl)) rfl ?_
     exact ⟨eS, bS⟩
   ·obtain ⟨rfl, rfl, rfl, rfl⟩ := sI4 H
    have hnb38 := nP b6 b2
    have hz39 := cz4 d1
    have hz40 := cz4 d6
    go_wp2
    refine bodyPost_ret (results_cell_row rfl _ _ a8 40 #[.int .i64 a7, .int .i64 a6, .int .i64 a5, .int .i64 a3] (0, 0) _ rfl kS Tryz.underlying40 rfl (by kernel_rfl)) rfl ?_
    exact ⟨eS, bS⟩
def spec_Identity.f  : Option (Int × Int × Int × Int) := some (0, 1, 0, 0)
theorem spec_Identity.calls  (r1 : Int) (r2 : Int) (r3 : Int) (r4 : Int) (w : World) (h : spec_Identity.f  = some (r1, r2, r3, r4)) :
  Calls Tryz.prog 74 #[] w fun e w' => e = .returned (.agg #[.int .i64 r1, .int .i64 r2, .int .i64 r3, .int .i64 r4]) ∧ Below w.heap.size w w' := by
 have hu38 := Tryz.underlying38
 have HB := aM (Below.refl w.heap.size w)
 have H := h
 clear h
 unfold spec_Identity.f at H
 obtain ⟨rfl, rfl, rfl, rfl⟩ := sI4 H
 go_enter Tryz.func74, Tryz.ntmps74
 go_wp2_with (first | ((with_reducible refine gD 0 ?_); refine bxE #[.int .i64 0, .int .i64 0, .int .i64 0, .int .i64 0] 38 ?_; intro a2 hg w1 a3 hb; have GE322 := gE hg; replace HB := hB hb; clear hb hg; have hz2 := cz4 a3))
 refine bodyPost_ret (results_cell_row rfl _ _ a2 38 #[.int .i64 0, .int .i64 1, .int .i64 0, .int .i64 0] (0, 0) _ rfl kS Tryz.underlying38 rfl (by kernel_rfl)) rfl ?_
 exact ⟨eS, bS⟩
def spec_JoinTurns.j0 : Nat → Bool → Int → Int → Int → Int → Int → Int → Int → Int → Option (Int × Int × Int × Int × Bool)
 | 0, _, _, _, _, _, _, _, _, _ => none
 | k + 1, x15, a5, a6, a8, a9, a2, a3, b0, b1 => if x15 = true then (some (0, 0, 0, 0, false)) else ((spec_l03Raw.f k a2 a3 b0 b1 a8 a9).bind fun a7 => ((spec_TurnOk.f (Int.tmod (wrap64 (a5 + a2)) 4) (wrap64 (a6 * a3)) a7.1 a7.2).bind fun b2 => (if b2 = true then (some (Int.tmod (wrap64 (a5 + a2)) 4, wrap64 (a6 * a3), a7.1, a7.2, true)) else (some (0, 0, 0, 0, false)))))
def spec_JoinTurns.f (k : Nat) (a2 : Int) (a3 : Int) (a5 : Int) (a6 : Int) (a7 : Int) (a8 : Int) (a9 : Int) (b0 : Int) : Option (Int × Int × Int × Int × Bool) := (spec_TurnOk.f a2 a3 a5 a6).bind fun b1 => (if b1 = true then ((spec_TurnOk.f a7 a8 a9 b0).bind fun b2 => (spec_JoinTurns.j0 k (!b2) a2 a3 a5 a6 a7 a8 a9 b0)) else (spec_JoinTurns.j0 k true a2 a3 a5 a6 a7 a8 a9 b0))
theorem spec_JoinTurns.calls (k : Nat) (f0 : Int) (f3 : Int) (f7 : Int) (f8 : Int) (b9 : Int) (d0 : Int) (f9 : Int) (g0 : Int) (r1 : Int) (r2 : Int) (r3 : Int) (r4 : Int) (r5 : Bool) (w : World) (h : spec_JoinTurns.f k f0 f3 f7 f8 b9 d0 f9 g0 = some (r1, r2, r3, r4, r5)) :
  Calls Tryz.prog 75 #[.agg #[.int .i64 f0, .int .i64 f3, .int .i64 f7, .int .i64 f8], .agg #[.int .i64 b9, .int .i64 d0, .int .i64 f9, .int .i64 g0]] w fun e w' => e = .returned (.tuple #[.agg #[.int .i64 r1, .int .i64 r2, .int .i64 r3, .int .i64 r4], .bool r5]) ∧ Below w.heap.size w w' := by
 have hu38 := Tryz.underlying38
 have hu111 := Tryz.underlying111
 have HB := aM (Below.refl w.heap.size w)
 have H := h
 clear h
 unfold spec_JoinTurns.f at H
 have g3 := aM H
 clear H
 go_enter Tryz.func75, Tryz.ntmps75
 go_upto_region 1 with (first | ((with_reducible refine gD 2 ?_); refine bxE #[.int .i64 f0, .int .i64 f3, .int .i64 f7, .int .i64 f8] 38 ?_; intro a2 hg w4 a6 hb; have GE323 := gE hg; replace HB := hB hb; clear hb hg) | ((with_reducible refine gD 3 ?_); refine bxE #[.int .i64 b9, .int .i64 d0, .int .i64 f9, .int .i64 g0] 38 ?_; intro a3 hg w5 a7 hb; have GE324 := gE hg; have b2 := nL_ a2 hg; have b6 := nG_ a2 hg; replace a6 := kB_ a2 hb; replace HB := hB hb; clear hb hg) | ((with_reducible refine gD 4 ?_); refine bxE #[.int .i64 0, .int .i64 0, .int .i64 0, .int .i64 0] 38 ?_; intro a5 hg w6 a8 hb; have GE325 := gE hg; have a9 := nL_ a2 hg; have b0 := nG_ a2 hg; have b7 := nL_ a3 hg; have b8 := nG_ a3 hg; replace a6 := kB_ a2 hb; replace a7 := kB_ a3 hb; replace HB := hB hb; clear hb hg))
 (try simp only [Act.put, List.setIfInBounds_toArray, List.set_cons_zero, List.set_cons_succ])
 go_cut [15] (fun h0 wc => ∃ (kq : Nat) (g1 : Bool), h0 = .bool g1 ∧ Aside0 (spec_JoinTurns.j0 kq g1 f0 f3 f7 f8 b9 d0 f9 g0 = some (r1, r2, r3, r4, r5)) ∧ Aside0 (kq ≤ k) ∧ Aside0 (wc.heap[a2]? = some (.cells #[.int .i64 f0, .int .i64 f3, .int .i64 f7, .int .i64 f8] 38 (0, 0))) ∧ Aside0 (wc.heap[a3]? = some (.cells #[.int .i64 b9, .int .i64 d0, .int .i64 f9, .int .i64 g0] 38 (0, 0))) ∧ Aside0 (wc.heap[a5]? = some (.cells #[.int .i64 0, .int .i64 0, .int .i64 0, .int .i64 0] 38 (0, 0))) ∧ Aside0 (Below w.heap.size w wc))
 case first =>
  have H := g3.out
  clear g3
  replace H := bN H
  obtain ⟨g4, A7, H⟩ := H
  by_cases c8 : g4 = true
  ·subst c8
   rw [if_pos rfl] at H
   replace H := bN H
   obtain ⟨g2, A9, H⟩ := H
   have H' := aM H
   clear H
   have hnb10 := nP b2 b6
   have hnb11 := nP a9 b0
   have hz12 := cz4 a6
   go_wp2_with (first | ((with_reducible refine gC 110 ?_); refine cM (some 9) Tryz.func110 (spec_TurnOk.calls f0 f3 f7 f8 _ _ A7.out) ?_; rintro e h1 ⟨rfl, hb⟩; refine ⟨_, rfl, ?_⟩; replace a6 := kB_ a2 hb; replace a7 := kB_ a3 hb; replace a8 := kB_ a5 hb; replace HB := hB hb; (try clear hb); have hnb14 := nP b7 b8; have hz15 := cz4 a7) | (go_at_call 110; (with_reducible refine (spec_TurnOk.calls b9 d0 f9 g0 g2 _ A9.out).mono ?_); rintro e h2 ⟨rfl, hb⟩; replace a6 := kB_ a2 hb; replace a7 := kB_ a3 hb; replace a8 := kB_ a5 hb; replace HB := hB hb; (try clear hb)))
   go_meet
   case rel => exact ⟨_, (!g2), fS, H', ⟨by first | omega | exact Nat.le_refl _⟩, ⟨kS⟩, ⟨kS⟩, ⟨kS⟩, ⟨bS⟩⟩
  ·obtain rfl := Bool.eq_false_iff.mpr c8
   rw [if_neg nF] at H
   have H' := aM H
   clear H
   have hnb17 := nP b2 b6
   have hnb18 := nP a9 b0
   have hz19 := cz4 a6
   go_wp2_with (first | ((with_reducible refine gC 110 ?_); refine cM (some 9) Tryz.func110 (spec_TurnOk.calls f0 f3 f7 f8 _ _ A7.out) ?_; rintro e h3 ⟨rfl, hb⟩; refine ⟨_, rfl, ?_⟩; replace a6 := kB_ a2 hb; replace a7 := kB_ a3 hb; replace a8 := kB_ a5 hb; replace HB := hB hb; (try clear hb)))
   go_meet
   case rel => exact ⟨_, (true), fS, H', ⟨by first | omega | exact Nat.le_refl _⟩, ⟨kS⟩, ⟨kS⟩, ⟨kS⟩, ⟨bS⟩⟩
 case rest =>
  clear g3
  try clear c1
  try clear p2
  try clear c7
  try clear c8
  try clear c10
  try clear h4
  try clear h5
  try clear h6
  try clear h7
  obtain ⟨kq, g1, rfl, HA, HJ2, a6, a7, a8, HB⟩ := hcut
  cases kq with
  | zero => exact absurd HA.out (by simp [spec_JoinTurns.j0])
  | succ kj2 =>
   have H := HA.out
   clear HA
   simp only [spec_JoinTurns.j0] at H
   by_cases g6 : g1 = true
   ·subst g6
    rw [if_pos rfl] at H
    obtain ⟨rfl, rfl, rfl, rfl, rfl⟩ := sI5 H
    have hnb22 := nP b0 a9
    have hnb23 := nP b8 b7
    have hz24 := cz4 a8
    go_wp2
    refine bodyPost_ret (results_ct rfl _ _ a5 38 #[.int .i64 0, .int .i64 0, .int .i64 0, .int .i64 0] (0, 0) _ rfl kS Tryz.underlying38 rfl (by kernel_rfl)) rfl ?_
    exact ⟨eS, bS⟩
   ·obtain rfl := Bool.eq_false_iff.mpr g6
    rw [if_neg nF] at H
    replace H := bN H
    obtain ⟨⟨d1, d2⟩, g7, H⟩ := H
    replace H := bN H
    obtain ⟨g5, g8, H⟩ := H
    by_cases g9 : g5 = true
    ·subst g9
     rw [if_pos rfl] at H
     obtain ⟨rfl, rfl, rfl, rfl, rfl⟩ := sI5 H
     have hnb28 := nP b6 b2
     have hnb29 := nP b7 b8
     have hz30 := cz4 a7
     have hnb31 := nP a9 b0
     have hz32 := cz4 a6
     go_wp2_with (first | ((with_reducible refine gC 71 ?_); refine cM (some 23) Tryz.func71 (spec_l03Raw.calls kj2 b9 d0 f9 g0 f7 f8 d1 d2 _ g7.out) ?_; rintro e h8 ⟨rfl, hb⟩; refine ⟨_, rfl, ?_⟩; replace a6 := kB_ a2 hb; replace a7 := kB_ a3 hb; replace a8 := kB_ a5 hb; replace HB := hB hb; (try clear hb)) | ((with_reducible refine gD 6 ?_); refine bxE #[.int .i64 0, .int .i64 0] 111 ?_; intro b1 hg h9 f4 hb; have GE330 := gE hg; have d3 := nL_ a2 hg; have d4 := nG_ a2 hg; have d5 := nL_ a3 hg; have d6 := nG_ a3 hg; have e0 := nL_ a5 hg; have e1 := nG_ a5 hg; replace a6 := kB_ a2 hb; replace a7 := kB_ a3 hb; replace a8 := kB_ a5 hb; replace HB := hB hb; clear hb hg; have hnb35 := nP d4 d3; have hnb36 := nP d6 d5; have hnb37 := nP e1 e0; have hz38 := cz2 f4; have hz39 := cz4 a6; have hz40 := cz4 a7) | ((with_reducible refine gD 7 ?_); refine bxE #[.int .i64 0, .int .i64 0, .int .i64 0, .int .i64 0] 38 ?_; intro f5 hg i1 f6 hb; have GE331 := gE hg; have e2 := nL_ a2 hg; have e3 := nG_ a2 hg; have e4 := nL_ a3 hg; have e5 := nG_ a3 hg; have e6 := nL_ a5 hg; have e7 := nG_ a5 hg; have e8 := aM ((by rw [hg]; exact Nat.ne_of_lt (blk_lt (g := b1) (o := .cells #[.int .i64 d1, .int .i64 d2] 111 (0, 0)) kS) : b1 ≠ f5)); have e9 := aM ((by rw [hg]; exact Nat.ne_of_gt (blk_lt (g := b1) (o := .cells #[.int .i64 d1, .int .i64 d2] 111 (0, 0)) kS) : f5 ≠ b1)); replace a6 := kB_ a2 hb; replace a7 := kB_ a3 hb; replace a8 := kB_ a5 hb; replace f4 := kO b1 #[.int .i64 d1, .int .i64 d2] 111 hb; replace HB := hB hb; clear hb hg; have hnb42 := nP e3 e2; have hnb43 := nP e5 e4; have hnb44 := nP e7 e6; have hnb45 := nP e9 e8; have hz46 := cz4 f6) | ((with_reducible refine gC 110 ?_); refine cM (some 41) Tryz.func110 (spec_TurnOk.calls (Int.tmod (wrap64 (f0 + b9)) 4) (wrap64 (f3 * d0)) d1 d2 _ _ g8.out) ?_; rintro e i3 ⟨rfl, hb⟩; refine ⟨_, rfl, ?_⟩; replace a6 := kB_ a2 hb; replace a7 := kB_ a3 hb; replace a8 := kB_ a5 hb; replace f4 := kB_ b1 hb; replace f6 := kO f5 #[.int .i64 (Int.tmod (wrap64 (f0 + b9)) 4), .int .i64 (wrap64 (f3 * d0)), .int .i64 d1, .int .i64 d2] 38 hb; replace HB := hB hb; (try clear hb); have hz48 := cz4 f6; have hz49 := cz4 a8))
     refine bodyPost_ret (results_ct rfl _ _ a5 38 #[.int .i64 (Int.tmod (wrap64 (f0 + b9)) 4), .int .i64 (wrap64 (f3 * d0)), .int .i64 d1, .int .i64 d2] (0, 0) _ rfl kS Tryz.underlying38 rfl (by kernel_rfl)) rfl ?_
     exact ⟨eS, bS⟩
    ·obtain rfl := Bool.eq_false_iff.mpr g9
     rw [if_neg nF] at H
     obtain ⟨rfl, rfl, rfl, rfl, rfl⟩ := sI5 H
     have hnb50 := nP b6 b2
     have hnb51 := nP b7 b8
     have hz52 := cz4 a7
     have hnb53 := nP a9 b0
     have hz54 := cz4 a6
     go_wp2_with (first | ((with_reducible refine gC 71 ?_); refine cM (some 23) Tryz.func71 (spec_l03Raw.calls kj2 b9 d0 f9 g0 f7 f8 d1 d2 _ g7.out) ?_; rintro e i4 ⟨rfl, hb⟩; refine ⟨_, rfl, ?_⟩; replace a6 := kB_ a2 hb; replace a7 := kB_ a3 hb; replace a8 := kB_ a5 hb; replace HB := hB hb; (try clear hb)) | ((with_reducible refine gD 6 ?_); refine bxE #[.int .i64 0, .int .i64 0] 111 ?_; intro b1 hg i5 f4 hb; have GE330 := gE hg; have d3 := nL_ a2 hg; have d4 := nG_ a2 hg; have d5 := nL_ a3 hg; have d6 := nG_ a3 hg; have e0 := nL_ a5 hg; have e1 := nG_ a5 hg; replace a6 := kB_ a2 hb; replace a7 := kB_ a3 hb; replace a8 := kB_ a5 hb; replace HB := hB hb; clear hb hg; have hnb57 := nP d4 d3; have hnb58 := nP d6 d5; have hnb59 := nP e1 e0; have hz60 := cz2 f4; have hz61 := cz4 a6; have hz62 := cz4 a7) | ((with_reducible refine gD 7 ?_); refine bxE #[.int .i64 0, .int .i64 0, .int .i64 0, .int .i64 0] 38 ?_; intro f5 hg i6 f6 hb; have GE331 := gE hg; have e2 := nL_ a2 hg; have e3 := nG_ a2 hg; have e4 := nL_ a3 hg; have e5 := nG_ a3 hg; have e6 := nL_ a5 hg; have e7 := nG_ a5 hg; have e8 := aM ((by rw [hg]; exact Nat.ne_of_lt (blk_lt (g := b1) (o := .cells #[.int .i64 d1, .int .i64 d2] 111 (0, 0)) kS) : b1 ≠ f5)); have e9 := aM ((by rw [hg]; exact Nat.ne_of_gt (blk_lt (g := b1) (o := .cells #[.int .i64 d1, .int .i64 d2] 111 (0, 0)) kS) : f5 ≠ b1)); replace a6 := kB_ a2 hb; replace a7 := kB_ a3 hb; replace a8 := kB_ a5 hb; replace f4 := kO b1 #[.int .i64 d1, .int .i64 d2] 111 hb; replace HB := hB hb; clear hb hg; have hnb64 := nP e3 e2; have hnb65 := nP e5 e4; have hnb66 := nP e7 e6; have hnb67 := nP e9 e8; have hz68 := cz4 f6) | ((with_reducible refine gC 110 ?_); refine cM (some 41) Tryz.func110 (spec_TurnOk.calls (Int.tmod (wrap64 (f0 + b9)) 4) (wrap64 (f3 * d0)) d1 d2 _ _ g8.out) ?_; rintro e i7 ⟨rfl, hb⟩; refine ⟨_, rfl, ?_⟩; replace a6 := kB_ a2 hb; replace a7 := kB_ a3 hb; replace a8 := kB_ a5 hb; replace f4 := kB_ b1 hb; replace f6 := kO f5 #[.int .i64 (Int.tmod (wrap64 (f0 + b9)) 4), .int .i64 (wrap64 (f3 * d0)), .int .i64 d1, .int .i64 d2] 38 hb; replace HB := hB hb; (try clear hb); have hz70 := cz4 a8))
     refine bodyPost_ret (results_ct rfl _ _ a5 38 #[.int .i64 0, .int .i64 0, .int .i64 0, .int .i64 0] (0, 0) _ rfl kS Tryz.underlying38 rfl (by kernel_rfl)) rfl ?_
     exact ⟨eS, bS⟩
end Go.Proofs.YtjkgponlahfnjaaGreat.QFnExactExecToken
