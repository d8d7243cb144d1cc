/- Walks of functions of the program, made out of the translation by a program of this session: each answers what its plain function tells, for every input at which that is told. -/
import Derived.Test.YtjkgponlahfnjaaGreatQFnExactExecTokenx0
import Derived.Test.YtjkgponlahfnjaaGreatQFnExactExecTokenx10
import Derived.Test.YtjkgponlahfnjaaGreatQFnExactExecTokenx17
namespace Go.Proofs.YtjkgponlahfnjaaGreat.QFnExactExecToken
open Go.RowKit Go.Proofs.YtjkgponlahfnjaaGreatW.PrintWords Go.Proofs.YtjkgponlahfnjaaGreatW.PrintLast Go.Proofs.YtjkgponlahfnjaaGreatW.PrintMore
attribute [local go_sem] max2_int min2_int max_two min_two max_three min_three max_four min_four   -- for this text's walks alone
set_option linter.unusedVariables false
set_option linter.unusedSimpArgs false
set_option maxHeartbeats 8000000
set_option maxRecDepth 100000
/-! ### impl_JoinTurns: function 94 -/
def impl_JoinTurns.j0 : Nat → Bool → Int → Int → Int → Int → Int → Int → Int → Int → Option (Int × Int × Int × Int × Bool)
 | 0, _, _, _, _, _, _, _, _, _ => none
 | k + 1, x15, a5, a6, a8, a9, a2, a3, b0, b1 => if x15 = true then (some (0, 0, 0, 0, false)) else ((impl_moved.f k a2 a3 b0 b1 a8 a9).bind fun a7 => ((impl_TurnOk.f (Int.tmod (wrap64 (a5 + a2)) 4) (wrap64 (a6 * a3)) a7.1 a7.2).bind fun b2 => (if b2 = true then (some (Int.tmod (wrap64 (a5 + a2)) 4, wrap64 (a6 * a3), a7.1, a7.2, true)) else (some (0, 0, 0, 0, false)))))
def impl_JoinTurns.f (k : Nat) (a2 : Int) (a3 : Int) (a5 : Int) (a6 : Int) (a7 : Int) (a8 : Int) (a9 : Int) (b0 : Int) : Option (Int × Int × Int × Int × Bool) := (impl_TurnOk.f a2 a3 a5 a6).bind fun b1 => (if b1 = true then ((impl_TurnOk.f a7 a8 a9 b0).bind fun b2 => (impl_JoinTurns.j0 k (!b2) a2 a3 a5 a6 a7 a8 a9 b0)) else (impl_JoinTurns.j0 k true a2 a3 a5 a6 a7 a8 a9 b0))
theorem impl_JoinTurns.calls (k : Nat) (f0 : Int) (f3 : Int) (f7 : Int) (f8 : Int) (b9 : Int) (d0 : Int) (f9 : Int) (g0 : Int) (r1 : Int) (r2 : Int) (r3 : Int) (r4 : Int) (r5 : Bool) (w : World) (h : impl_JoinTurns.f k f0 f3 f7 f8 b9 d0 f9 g0 = some (r1, r2, r3, r4, r5)) :
  Calls Tryz.prog 94 #[.agg #[.int .i64 f0, .int .i64 f3, .int .i64 f7, .int .i64 f8], .agg #[.int .i64 b9, .int .i64 d0, .int .i64 f9, .int .i64 g0]] w fun e w' => e = .returned (.tuple #[.agg #[.int .i64 r1, .int .i64 r2, .int .i64 r3, .int .i64 r4], .bool r5]) ∧ Below w.heap.size w w' := by
 have hu38 := Tryz.underlying38
 have hu111 := Tryz.underlying111
 have HB := aM (Below.refl w.heap.size w)
 have H := h
 clear h
 unfold impl_JoinTurns.f at H
 have g3 := aM H
 clear H
 go_enter Tryz.func94, Tryz.ntmps94
 go_upto_region 1 with (first | ((with_reducible refine gD 2 ?_); refine bxE #[.int .i64 f0, .int .i64 f3, .int .i64 f7, .int .i64 f8] 38 ?_; intro a2 hg w4 a6 hb; have GE882 := gE hg; replace HB := hB hb; clear hb hg) | ((with_reducible refine gD 3 ?_); refine bxE #[.int .i64 b9, .int .i64 d0, .int .i64 f9, .int .i64 g0] 38 ?_; intro a3 hg w5 a7 hb; have GE883 := gE hg; have b2 := nL_ a2 hg; have b6 := nG_ a2 hg; replace a6 := kB_ a2 hb; replace HB := hB hb; clear hb hg) | ((with_reducible refine gD 4 ?_); refine bxE #[.int .i64 0, .int .i64 0, .int .i64 0, .int .i64 0] 38 ?_; intro a5 hg w6 a8 hb; have GE884 := gE hg; have a9 := nL_ a2 hg; have b0 := nG_ a2 hg; have b7 := nL_ a3 hg; have b8 := nG_ a3 hg; replace a6 := kB_ a2 hb; replace a7 := kB_ a3 hb; replace HB := hB hb; clear hb hg))
 (try simp only [Act.put, List.setIfInBounds_toArray, List.set_cons_zero, List.set_cons_succ])
 go_cut [15] (fun h0 wc => ∃ (kq : Nat) (g1 : Bool), h0 = .bool g1 ∧ Aside0 (impl_JoinTurns.j0 kq g1 f0 f3 f7 f8 b9 d0 f9 g0 = some (r1, r2, r3, r4, r5)) ∧ Aside0 (kq ≤ k) ∧ Aside0 (wc.heap[a2]? = some (.cells #[.int .i64 f0, .int .i64 f3, .int .i64 f7, .int .i64 f8] 38 (0, 0))) ∧ Aside0 (wc.heap[a3]? = some (.cells #[.int .i64 b9, .int .i64 d0, .int .i64 f9, .int .i64 g0] 38 (0, 0))) ∧ Aside0 (wc.heap[a5]? = some (.cells #[.int .i64 0, .int .i64 0, .int .i64 0, .int .i64 0] 38 (0, 0))) ∧ Aside0 (Below w.heap.size w wc))
 case first =>
  have H := g3.out
  clear g3
  replace H := bN H
  obtain ⟨g4, A7, H⟩ := H
  by_cases c8 : g4 = true
  ·subst c8
   rw [if_pos rfl] at H
   replace H := bN H
   obtain ⟨g2, A9, H⟩ := H
   have H' := aM H
   clear H
   have hnb10 := nP b2 b6
   have hnb11 := nP a9 b0
   have hz12 := cz4 a6
   go_wp2_with (first | ((with_reducible refine gC 115 ?_); refine cM (some 9) Tryz.func115 (impl_TurnOk.calls f0 f3 f7 f8 _ _ A7.out) ?_; rintro e h1 ⟨rfl, hb⟩; refine ⟨_, rfl, ?_⟩; replace a6 := kB_ a2 hb; replace a7 := kB_ a3 hb; replace a8 := kB_ a5 hb; replace HB := hB hb; (try clear hb); have hnb14 := nP b7 b8; have hz15 := cz4 a7) | (go_at_call 115; (with_reducible refine (impl_TurnOk.calls b9 d0 f9 g0 g2 _ A9.out).mono ?_); rintro e h2 ⟨rfl, hb⟩; replace a6 := kB_ a2 hb; replace a7 := kB_ a3 hb; replace a8 := kB_ a5 hb; replace HB := hB hb; (try clear hb)))
   go_meet
   case rel => exact ⟨_, (!g2), fS, H', ⟨by first | omega | exact Nat.le_refl _⟩, ⟨kS⟩, ⟨kS⟩, ⟨kS⟩, ⟨bS⟩⟩
  ·obtain rfl := Bool.eq_false_iff.mpr c8
   rw [if_neg nF] at H
   have H' := aM H
   clear H
   have hnb17 := nP b2 b6
   have hnb18 := nP a9 b0
   have hz19 := cz4 a6
   go_wp2_with (first | ((with_reducible refine gC 115 ?_); refine cM (some 9) Tryz.func115 (impl_TurnOk.calls f0 f3 f7 f8 _ _ A7.out) ?_; rintro e h3 ⟨rfl, hb⟩; refine ⟨_, rfl, ?_⟩; replace a6 := kB_ a2 hb; replace a7 := kB_ a3 hb; replace a8 := kB_ a5 hb; replace HB := hB hb; (try clear hb)))
   go_meet
   case rel => exact ⟨_, (true), fS, H', ⟨by first | omega | exact Nat.le_refl _⟩, ⟨kS⟩, ⟨kS⟩, ⟨kS⟩, ⟨bS⟩⟩
 case rest =>
  clear g3
  try clear c1
  try clear p2
  try clear c8
  try clear c9
  try clear c10
  try clear h4
  try clear h5
  try clear h6
  try clear h7
  obtain ⟨kq, g1, rfl, HA, HJ2, a6, a7, a8, HB⟩ := hcut
  cases kq with
  | zero => exact absurd HA.out (by simp [impl_JoinTurns.j0])
  | succ kj2 =>
   have H := HA.out
   clear HA
   simp only [impl_JoinTurns.j0] at H
   by_cases g6 : g1 = true
   ·subst g6
    rw [if_pos rfl] at H
    obtain ⟨rfl, rfl, rfl, rfl, rfl⟩ := sI5 H
    have hnb22 := nP b0 a9
    have hnb23 := nP b8 b7
    have hz24 := cz4 a8
    go_wp2
    refine bodyPost_ret (results_ct rfl _ _ a5 38 #[.int .i64 0, .int .i64 0, .int .i64 0, .int .i64 0] (0, 0) _ rfl kS Tryz.underlying38 rfl (by kernel_rfl)) rfl ?_
    exact ⟨eS, bS⟩
   ·obtain rfl := Bool.eq_false_iff.mpr g6
    rw [if_neg nF] at H
    replace H := bN H
    obtain ⟨⟨d1, d2⟩, g7, H⟩ := H
    replace H := bN H
    obtain ⟨g5, g8, H⟩ := H
    by_cases g9 : g5 = true
    ·subst g9
     rw [if_pos rfl] at H
     obtain ⟨rfl, rfl, rfl, rfl, rfl⟩ := sI5 H
     have hnb28 := nP b6 b2
     have hnb29 := nP b7 b8
     have hz30 := cz4 a7
     have hnb31 := nP a9 b0
     have hz32 := cz4 a6
     go_wp2_with (first | ((with_reducible refine gC 89 ?_); refine cM (some 23) Tryz.func89 (impl_moved.calls kj2 b9 d0 f9 g0 f7 f8 d1 d2 _ g7.out) ?_; rintro e h8 ⟨rfl, hb⟩; refine ⟨_, rfl, ?_⟩; replace a6 := kB_ a2 hb; replace a7 := kB_ a3 hb; replace a8 := kB_ a5 hb; replace HB := hB hb; (try clear hb)) | ((with_reducible refine gD 6 ?_); refine bxE #[.int .i64 0, .int .i64 0] 111 ?_; intro b1 hg h9 f4 hb; have GE889 := gE hg; have d3 := nL_ a2 hg; have d4 := nG_ a2 hg; have d5 := nL_ a3 hg; have d6 := nG_ a3 hg; have e0 := nL_ a5 hg; have e1 := nG_ a5 hg; replace a6 := kB_ a2 hb; replace a7 := kB_ a3 hb; replace a8 := kB_ a5 hb; replace HB := hB hb; clear hb hg; have hnb35 := nP d4 d3; have hnb36 := nP d6 d5; have hnb37 := nP e1 e0; have hz38 := cz2 f4; have hz39 := cz4 a6; have hz40 := cz4 a7) | ((with_reducible refine gD 7 ?_); refine bxE #[.int .i64 0, .int .i64 0, .int .i64 0, .int .i64 0] 38 ?_; intro f5 hg i1 f6 hb; have GE890 := gE hg; have e2 := nL_ a2 hg; have e3 := nG_ a2 hg; have e4 := nL_ a3 hg; have e5 := nG_ a3 hg; have e6 := nL_ a5 hg; have e7 := nG_ a5 hg; have e8 := aM ((by rw [hg]; exact Nat.ne_of_lt (blk_lt (g := b1) (o := .cells #[.int .i64 d1, .int .i64 d2] 111 (0, 0)) kS) : b1 ≠ f5)); have e9 := aM ((by rw [hg]; exact Nat.ne_of_gt (blk_lt (g := b1) (o := .cells #[.int .i64 d1, .int .i64 d2] 111 (0, 0)) kS) : f5 ≠ b1)); replace a6 := kB_ a2 hb; replace a7 := kB_ a3 hb; replace a8 := kB_ a5 hb; replace f4 := kO b1 #[.int .i64 d1, .int .i64 d2] 111 hb; replace HB := hB hb; clear hb hg; have hnb42 := nP e3 e2; have hnb43 := nP e5 e4; have hnb44 := nP e7 e6; have hnb45 := nP e9 e8; have hz46 := cz4 f6) | ((with_reducible refine gC 115 ?_); refine cM (some 41) Tryz.func115 (impl_TurnOk.calls (Int.tmod (wrap64 (f0 + b9)) 4) (wrap64 (f3 * d0)) d1 d2 _ _ g8.out) ?_; rintro e i3 ⟨rfl, hb⟩; refine ⟨_, rfl, ?_⟩; replace a6 := kB_ a2 hb; replace a7 := kB_ a3 hb; replace a8 := kB_ a5 hb; replace f4 := kB_ b1 hb; replace f6 := kO f5 #[.int .i64 (Int.tmod (wrap64 (f0 + b9)) 4), .int .i64 (wrap64 (f3 * d0)), .int .i64 d1, .int .i64 d2] 38 hb; replace HB := hB hb; (try clear hb); have hz48 := cz4 f6; have hz49 := cz4 a8))
     refine bodyPost_ret (results_ct rfl _ _ a5 38 #[.int .i64 (Int.tmod (wrap64 (f0 + b9)) 4), .int .i64 (wrap64 (f3 * d0)), .int .i64 d1, .int .i64 d2] (0, 0) _ rfl kS Tryz.underlying38 rfl (by kernel_rfl)) rfl ?_
     exact ⟨eS, bS⟩
    ·obtain rfl := Bool.eq_false_iff.mpr g9
     rw [if_neg nF] at H
     obtain ⟨rfl, rfl, rfl, rfl, rfl⟩ := sI5 H
     have hnb50 := nP b6 b2
     have hnb51 := nP b7 b8
     have hz52 := cz4 a7
     have hnb53 := nP a9 b0
     have hz54 := cz4 a6
     go_wp2_with (first | ((with_reducible refine gC 89 ?_); refine cM (some 23) Tryz.func89 (impl_moved.calls kj2 b9 d0 f9 g0 f7 f8 d1 d2 _ g7.out) ?_; rintro e i4 ⟨rfl, hb⟩; refine ⟨_, rfl, ?_⟩; replace a6 := kB_ a2 hb; replace a7 := kB_ a3 hb; replace a8 := kB_ a5 hb; replace HB := hB hb; (try clear hb)) | ((with_reducible refine gD 6 ?_); refine bxE #[.int .i64 0, .int .i64 0] 111 ?_; intro b1 hg i5 f4 hb; have GE889 := gE hg; have d3 := nL_ a2 hg; have d4 := nG_ a2 hg; have d5 := nL_ a3 hg; have d6 := nG_ a3 hg; have e0 := nL_ a5 hg; have e1 := nG_ a5 hg; replace a6 := kB_ a2 hb; replace a7 := kB_ a3 hb; replace a8 := kB_ a5 hb; replace HB := hB hb; clear hb hg; have hnb57 := nP d4 d3; have hnb58 := nP d6 d5; have hnb59 := nP e1 e0; have hz60 := cz2 f4; have hz61 := cz4 a6; have hz62 := cz4 a7) | ((with_reducible refine gD 7 ?_); refine bxE #[.int .i64 0, .int .i64 0, .int .i64 0, .int .i64 0] 38 ?_; intro f5 hg i6 f6 hb; have GE890 := gE hg; have e2 := nL_ a2 hg; have e3 := nG_ a2 hg; have e4 := nL_ a3 hg; have e5 := nG_ a3 hg; have e6 := nL_ a5 hg; have e7 := nG_ a5 hg; have e8 := aM ((by rw [hg]; exact Nat.ne_of_lt (blk_lt (g := b1) (o := .cells #[.int .i64 d1, .int .i64 d2] 111 (0, 0)) kS) : b1 ≠ f5)); have e9 := aM ((by rw [hg]; exact Nat.ne_of_gt (blk_lt (g := b1) (o := .cells #[.int .i64 d1, .int .i64 d2] 111 (0, 0)) kS) : f5 ≠ b1)); replace a6 := kB_ a2 hb; replace a7 := kB_ a3 hb; replace a8 := kB_ a5 hb; replace f4 := kO b1 #[.int .i64 d1, .int .i64 d2] 111 hb; replace HB := hB hb; clear hb hg; have hnb64 := nP e3 e2; have hnb65 := nP e5 e4; have hnb66 := nP e7 e6; have hnb67 := nP e9 e8; have hz68 := cz4 f6) | ((with_reducible refine gC 115 ?_); refine cM (some 41) Tryz.func115 (impl_TurnOk.calls (Int.tmod (wrap64 (f0 + b9)) 4) (wrap64 (f3 * d0)) d1 d2 _ _ g8.out) ?_; rintro e i7 ⟨rfl, hb⟩; refine ⟨_, rfl, ?_⟩; replace a6 := kB_ a2 hb; replace a7 := kB_ a3 hb; replace a8 := kB_ a5 hb; replace f4 := kB_ b1 hb; replace f6 := kO f5 #[.int .i64 (Int.tmod (wrap64 (f0 + b9)) 4), .int .i64 (wrap64 (f3 * d0)), .int .i64 d1, .int .i64 d2] 38 hb; replace HB := hB hb; (try clear hb); have hz70 := cz4 a8))
     refine bodyPost_ret (results_ct rfl _ _ a5 38 #[.int .i64 0, .int .i64 0, .int .i64 0, .int .i64 0] (0, 0) _ rfl kS Tryz.underlying38 rfl (by kernel_rfl)) rfl ?_
     exact ⟨eS, bS⟩
end Go.Proofs.YtjkgponlahfnjaaGreat.QFnExactExecToken
