/- Walks of functions of the program, made out of the translation by a program of this session: each answers what its plain function tells, for every input at which that is told. -/
import Derived.Test.YtjkgponlahfnjaaGreatQFnExactExecTokenx0
import Derived.Test.YtjkgponlahfnjaaGreatQFnExactExecTokenx11
namespace Go.Proofs.YtjkgponlahfnjaaGreat.QFnExactExecToken
open Go.RowKit Go.Proofs.YtjkgponlahfnjaaGreatW.PrintWords Go.Proofs.YtjkgponlahfnjaaGreatW.PrintLast Go.Proofs.YtjkgponlahfnjaaGreatW.PrintMore
attribute [local go_sem] max2_int min2_int max_two min_two max_three min_three max_four min_four   -- for this text's walks alone
set_option linter.unusedVariables false
set_option linter.unusedSimpArgs false
set_option maxHeartbeats 8000000
set_option maxRecDepth 100000
/-! ### impl_BoxOf: function 92 -/
mutual
def impl_BoxOf.j0 : Nat → List (S111) → Bool → Option (Int × Int × Int × Int)
 | 0, _, _ => none
 | k + 1, x0, b0 => if b0 = true then (some (0, 0, 0, 0)) else (if 0 < (x0.length : Int) then (impl_BoxOf.l0 k x0 (x0.length : Int) 0 ((rd_T111 x0 0).f0) ((rd_T111 x0 0).f1) ((rd_T111 x0 0).f0) ((rd_T111 x0 0).f1)) else (none))
def impl_BoxOf.l0 : Nat → List (S111) → Int → Int → Int → Int → Int → Int → Option (Int × Int × Int × Int)
 | 0, _, _, _, _, _, _, _ => none
 | k + 1, a8, a9, a7, a2, a3, a5, a6 => if a7 < a9 then (if 0 ≤ a7 then (if a7 < (a8.length : Int) then (impl_BoxOf.l0 k a8 a9 (wrap64 (a7 + 1)) (mn a2 ((rd_T111 a8 a7).f0)) (mn a3 ((rd_T111 a8 a7).f1)) (mx a5 ((rd_T111 a8 a7).f0)) (mx a6 ((rd_T111 a8 a7).f1))) else (none)) else (none)) else (some (a2, a3, a5, a6))
end
def impl_BoxOf.f (k : Nat) (l0 : List (S111)) : Option (Int × Int × Int × Int) := if (l0.length : Int) = 0 then (impl_BoxOf.j0 k l0 true) else ((impl_pointsOk.f k l0).bind fun a2 => (impl_BoxOf.j0 k l0 (!a2)))
def impl_BoxOf.T3 : Bool × List (List Nat × List Nat) := (true, [([], []), ([0], [0]), ([1], [1]), ([2], [2]), ([], []), ([4], [4]), ([5], [5]), ([6], [6]), ([], []), ([8], [8]), ([9], [9]), ([10], [10]), ([], []), ([12], [12]), ([13], [13]), ([14], [14]), ([3, 7, 11, 15], [3, 7, 11, 15]), ([], []), ([17, 16, 0, 1, 2, 3, 4, 5, 6, 7, 8, 9, 10, 11, 12, 13, 14, 15, 16, 17], [16, 17])])
def impl_BoxOf.B3 : List Nat := [0, 1, 3, 7, 0, 16, 48, 112, 0, 256, 768, 1792, 0, 4096, 12288, 28672, 65535, 0, 262143]
theorem impl_BoxOf.tab3 : rtab .any (opsOf Tryz.f92 3) = impl_BoxOf.T3 := by kernel_rfl
theorem impl_BoxOf.bits3 : waitsOk impl_BoxOf.T3.2 impl_BoxOf.B3 = true := by kernel_rfl
theorem impl_BoxOf.calls (k : Nat) (A0 : Option Addr) (c0 : Nat) (l0 : List (S111)) (r1 : Int) (r2 : Int) (r3 : Int) (r4 : Int) (w : World) (hr0 : Kd.C k111 w A0 l0.length l0) (i3 : l0.length ≤ c0) (h : impl_BoxOf.f k l0 = some (r1, r2, r3, r4)) :
  Calls Tryz.prog 92 #[.slice A0 l0.length c0] w fun e w' => e = .returned (.agg #[.int .i64 r1, .int .i64 r2, .int .i64 r3, .int .i64 r4]) ∧ Below w.heap.size w w' := by
 have hu40 := Tryz.underlying40
 have hu111 := Tryz.underlying111
 have g3 := aM hr0
 have i7 := aM i3
 clear hr0 i3
 have HB := aM (Below.refl w.heap.size w)
 have H := h
 clear h
 unfold impl_BoxOf.f at H
 have h3 := aM H
 clear H
 go_enter Tryz.func92, Tryz.ntmps92
 go_upto_region 1 with (first | ((with_reducible refine gD 2 ?_); refine bxE #[.int .i64 0, .int .i64 0, .int .i64 0, .int .i64 0] 40 ?_; intro d5 hg w3 b0 hb; have GE872 := gE hg; replace HB := hB hb; clear hb hg))
 (try simp only [Act.put, List.setIfInBounds_toArray, List.set_cons_zero, List.set_cons_succ])
 go_cut [13] (fun i8 wc => ∃ (kq : Nat) (e4 : Bool), i8 = .bool e4 ∧ Aside0 (impl_BoxOf.j0 kq l0 e4 = some (r1, r2, r3, r4)) ∧ Aside0 (kq ≤ k) ∧ Aside0 (wc.heap[d5]? = some (.cells #[.int .i64 0, .int .i64 0, .int .i64 0, .int .i64 0] 40 (0, 0))) ∧ Aside0 (Below w.heap.size w wc))
 case first =>
  have H := h3.out
  clear h3
  by_cases c4 : (l0.length : Int) = 0
  ·rw [if_pos c4] at H
   have e3 : ((l0.length : Int) == 0) = true := beq_iff_eq.mpr c4
   have g0 : ((l0.length : Int) != 0) = false := bne_eq_false_iff_eq.mpr c4
   clear c4
   (first | rw [e3] | (simp only [i64_w, i32_w]; rw [e3]) | skip)
   have H' := aM H
   clear H
   go_wp2
   go_meet
   case rel => exact ⟨_, (true), fS, H', ⟨by first | omega | exact Nat.le_refl _⟩, ⟨kS⟩, ⟨bS⟩⟩
  ·rw [if_neg c4] at H
   have e3 : ((l0.length : Int) == 0) = false := beq_eq_false_iff_ne.mpr c4
   have g0 : ((l0.length : Int) != 0) = true := bne_iff_ne.mpr c4
   have g4 : ¬ (l0 = []) := fun h_ => c4 (by rw [h_]; rfl)
   (first | rw [e3] | (simp only [i64_w, i32_w]; rw [e3]) | skip)
   replace H := bN H
   obtain ⟨g5, A5, H⟩ := H
   have H' := aM H
   clear H
   go_wp2_with (first | (go_at_call 117; (with_reducible refine (impl_pointsOk.calls k _ _ l0 g5 _ (cC g3 HB) i7.out A5.out).mono ?_); rintro e w6 ⟨rfl, hb⟩; replace b0 := kB_ d5 hb; replace HB := hB hb; (try clear hb)))
   go_meet
   case rel => exact ⟨_, (!g5), fS, H', ⟨by first | omega | exact Nat.le_refl _⟩, ⟨kS⟩, ⟨bS⟩⟩
 case rest =>
  clear h3
  try clear p2
  try clear c4
  try clear e3
  try clear g0
  try clear g4
  obtain ⟨kq, e4, rfl, HA, HJ1, b0, HB⟩ := hcut
  cases kq with
  | zero => exact absurd HA.out (by simp [impl_BoxOf.j0])
  | succ kj1 =>
   have H := HA.out
   clear HA
   simp only [impl_BoxOf.j0] at H
   by_cases c7 : e4 = true
   ·subst c7
    rw [if_pos rfl] at H
    obtain ⟨rfl, rfl, rfl, rfl⟩ := sI4 H
    have hz8 := cz4 b0
    go_wp2
    refine bodyPost_ret (results_cell_row rfl _ _ d5 40 #[.int .i64 0, .int .i64 0, .int .i64 0, .int .i64 0] (0, 0) _ rfl kS Tryz.underlying40 rfl (by kernel_rfl)) rfl ?_
    exact ⟨eS, bS⟩
   ·obtain rfl := Bool.eq_false_iff.mpr c7
    rw [if_neg nF] at H
    by_cases c9 : 0 < (l0.length : Int)
    ·rw [if_pos c9] at H
     have h4 : decide (0 < (l0.length : Int)) = true := decide_eq_true c9
     have h5 : decide (0 < l0.length) = true := decide_eq_true (by omega)
     clear c9
     have H' := aM H
     clear H
     try go_wp2
     replace b0 := bD b0
     replace HB := hD HB
     have e9 : 0 ≤ (0 : Int) := (by omega)
     have f3 : 0 < (l0.length : Int) := dA
     obtain ⟨b1, h6, b7, b8⟩ := at_T111 g3.out 0 e9 f3
     have hw874_1 := b8
     (try rw [show ((0 : Int)).toNat = 0 from rfl] at hw874_1)
     (try rw [show 0 * 2 = 0 from rfl] at hw874_1)
     (try rw [Addr.add_zero'] at hw874_1)
     have hw874_0 := b7
     (try rw [show ((0 : Int)).toNat = 0 from rfl] at hw874_0)
     (try rw [show 0 * 2 = 0 from rfl] at hw874_0)
     (try rw [Addr.add_zero'] at hw874_0)
     cases h6
     have qi874 : (0 < l0.length) = True := eq_true (by omega)
     (try rw [show ((0 : Int)).toNat = 0 from rfl] at b7)
     (try rw [show 0 * 2 = 0 from rfl] at b7)
     (try rw [Addr.add_zero'] at b7)
     (try rw [show ((0 : Int)).toNat = 0 from rfl] at b8)
     (try rw [show 0 * 2 = 0 from rfl] at b8)
     (try rw [Addr.add_zero'] at b8)
     replace b7 := cB HB b7
     replace b8 := cB HB b8
     replace e9 := eq_true e9
     replace f3 := eq_true f3
     have f4 : 0 ≤ (0 : Int) := (by omega)
     have f5 : 0 < (l0.length : Int) := dA
     obtain ⟨g6, h7, b9, d0⟩ := at_T111 g3.out 0 f4 f5
     have hw875_1 := d0
     (try rw [show ((0 : Int)).toNat = 0 from rfl] at hw875_1)
     (try rw [show 0 * 2 = 0 from rfl] at hw875_1)
     (try rw [Addr.add_zero'] at hw875_1)
     have hw875_0 := b9
     (try rw [show ((0 : Int)).toNat = 0 from rfl] at hw875_0)
     (try rw [show 0 * 2 = 0 from rfl] at hw875_0)
     (try rw [Addr.add_zero'] at hw875_0)
     obtain rfl : b1 = g6 := (by injection h7)
     have qi875 : (0 < l0.length) = True := eq_true (by omega)
     (try rw [show ((0 : Int)).toNat = 0 from rfl] at b9)
     (try rw [show 0 * 2 = 0 from rfl] at b9)
     (try rw [Addr.add_zero'] at b9)
     (try rw [show ((0 : Int)).toNat = 0 from rfl] at d0)
     (try rw [show 0 * 2 = 0 from rfl] at d0)
     (try rw [Addr.add_zero'] at d0)
     replace b9 := cB HB b9
     replace d0 := cB HB d0
     replace f4 := eq_true f4
     replace f5 := eq_true f5
     have f6 : 0 ≤ (0 : Int) := (by omega)
     have f7 : 0 < (l0.length : Int) := dA
     obtain ⟨g7, h8, d1, d2⟩ := at_T111 g3.out 0 f6 f7
     have hw876_1 := d2
     (try rw [show ((0 : Int)).toNat = 0 from rfl] at hw876_1)
     (try rw [show 0 * 2 = 0 from rfl] at hw876_1)
     (try rw [Addr.add_zero'] at hw876_1)
     have hw876_0 := d1
     (try rw [show ((0 : Int)).toNat = 0 from rfl] at hw876_0)
     (try rw [show 0 * 2 = 0 from rfl] at hw876_0)
     (try rw [Addr.add_zero'] at hw876_0)
     obtain rfl : b1 = g7 := (by injection h8)
     have qi876 : (0 < l0.length) = True := eq_true (by omega)
     (try rw [show ((0 : Int)).toNat = 0 from rfl] at d1)
     (try rw [show 0 * 2 = 0 from rfl] at d1)
     (try rw [Addr.add_zero'] at d1)
     (try rw [show ((0 : Int)).toNat = 0 from rfl] at d2)
     (try rw [show 0 * 2 = 0 from rfl] at d2)
     (try rw [Addr.add_zero'] at d2)
     replace d1 := cB HB d1
     replace d2 := cB HB d2
     replace f6 := eq_true f6
     replace f7 := eq_true f7
     have f8 : 0 ≤ (0 : Int) := (by omega)
     have f9 : 0 < (l0.length : Int) := dA
     obtain ⟨g8, h9, d3, d4⟩ := at_T111 g3.out 0 f8 f9
     have hw877_1 := d4
     (try rw [show ((0 : Int)).toNat = 0 from rfl] at hw877_1)
     (try rw [show 0 * 2 = 0 from rfl] at hw877_1)
     (try rw [Addr.add_zero'] at hw877_1)
     have hw877_0 := d3
     (try rw [show ((0 : Int)).toNat = 0 from rfl] at hw877_0)
     (try rw [show 0 * 2 = 0 from rfl] at hw877_0)
     (try rw [Addr.add_zero'] at hw877_0)
     obtain rfl : b1 = g8 := (by injection h9)
     have qi877 : (0 < l0.length) = True := eq_true (by omega)
     (try rw [show ((0 : Int)).toNat = 0 from rfl] at d3)
     (try rw [show 0 * 2 = 0 from rfl] at d3)
     (try rw [Addr.add_zero'] at d3)
     (try rw [show ((0 : Int)).toNat = 0 from rfl] at d4)
     (try rw [show 0 * 2 = 0 from rfl] at d4)
     (try rw [Addr.add_zero'] at d4)
     replace d3 := cB HB d3
     replace d4 := cB HB d4
     replace f8 := eq_true f8
     replace f9 := eq_true f9
     refine start_ (n := 19) (S := fun w' => w'.cell? b1 = some (.int .i64 ((rd_T111 l0 0).f0)) ∧ w'.cell? ⟨b1.block, b1.off + 1, none⟩ = some (.int .i64 ((rd_T111 l0 0).f1)) ∧ w'.cell? b1 = some (.int .i64 ((rd_T111 l0 0).f0)) ∧ w'.cell? ⟨b1.block, b1.off + 1, none⟩ = some (.int .i64 ((rd_T111 l0 0).f1)) ∧ w'.cell? b1 = some (.int .i64 ((rd_T111 l0 0).f0)) ∧ w'.cell? ⟨b1.block, b1.off + 1, none⟩ = some (.int .i64 ((rd_T111 l0 0).f1)) ∧ w'.cell? b1 = some (.int .i64 ((rd_T111 l0 0).f0)) ∧ w'.cell? ⟨b1.block, b1.off + 1, none⟩ = some (.int .i64 ((rd_T111 l0 0).f1))) (ds := []) (mB 19 0) (by kernel_rfl) rfl rfl ⟨(cB HB hw874_0), (cB HB hw874_1), (cB HB hw875_0), (cB HB hw875_1), (cB HB hw876_0), (cB HB hw876_1), (cB HB hw877_0), (cB HB hw877_1)⟩ (fun hHeld => ?_); refine with_tabW impl_BoxOf.tab3 impl_BoxOf.bits3 (fun HT_ HW_ => ?_)
     generalize wc.drew = j7 at b0 HB b7 b8 b9 d0 d1 d2 d3 d4 hHeld ⊢
     refine pU 0 (some 15) (mB 19 1) ?_
     refine pU 1 (some 16) (mB 19 3) ?_
     refine pU 2 (some 17) (mB 19 7) ?_
     refine pU 4 (some 19) (mB 19 23) ?_
     refine pU 5 (some 20) (mB 19 55) ?_
     refine pU 6 (some 21) (mB 19 119) ?_
     refine pU 8 (some 23) (mB 19 375) ?_
     refine pU 9 (some 24) (mB 19 887) ?_
     refine pU 10 (some 25) (mB 19 1911) ?_
     refine pU 12 (some 27) (mB 19 6007) ?_
     refine pU 13 (some 28) (mB 19 14199) ?_
     refine pU 14 (some 29) (mB 19 30583) ?_
     refine tK 3 (some 18) (mB 19 30591) ?_
     refine tK 7 (some 22) (mB 19 30719) ?_
     refine tK 11 (some 26) (mB 19 32767) ?_
     refine tK 15 (some 30) (mB 19 65535) ?_
     refine pU 16 (some 31) (mB 19 131071) ?_
     refine one_ (i := 17) (N := some 3) (mB 19 262143) rfl rfl (one_of HT_.out (by kernel_rfl)) (by decide) (fun K hK => ?_)
     refine box_step ?hg (N := 3) ?hd (cs := #[.int .i64 0, .int .i64 0, .int .i64 0, .int .i64 0]) (t := 40) ?hr ?_; (case hd => rfl); (case hg => rfl); (case hr => first | (go_simp; done) | (go_simp; rfl))
     intro e1 hg j8 hbox hb
     have a3 := aM (hbox)
     have GE878 := gE hg
     have b2 := nL_ d5 hg
     have b6 := nG_ d5 hg
     replace b0 := kB_ d5 hb
     replace HB := hB hb
     clear hb hg
     refine hK.out _ _ ⟨(cB HB hw874_0), (cB HB hw874_1), (cB HB hw875_0), (cB HB hw875_1), (cB HB hw876_0), (cB HB hw876_1), (cB HB hw877_0), (cB HB hw877_1)⟩ (fun hHeld => ?_)
     clear hK K
     refine norm_ (a' := ?_) ?_ ?_
     rotate_left
     ·show Act.put _ (some 3) _ = _
      simp only [Act.put, List.setIfInBounds_toArray, List.set_cons_zero, List.set_cons_succ, i64_w, i32_w]
      rfl
     refine one_ (i := 18) (N := none) (mB 19 524287) rfl rfl (one_of HT_.out (by kernel_rfl)) (by decide) (fun K hK => ?_)
     have hs12 := cg0 a3
     have hfs12 := blk_frozen a3.out 0
     have hns12_0 := nP b2 b6
     have hs13 := cg1 a3
     have hfs13 := blk_frozen a3.out 1
     have hs14 := cg2 a3
     have hfs14 := blk_frozen a3.out 2
     have hs15 := cg3 a3
     have hfs15 := blk_frozen a3.out 3
     refine skip_ (w1 := ?_) (by rfl) rfl ?_ ?_
     rotate_left
     ·go_simp
      rfl
     refine hK.out _ _ (onW (g := e1) (fun on_ => ⟨(cOp (nA hw874_0 GE878) on_ hHeld.1), (cOp (nA hw874_1 GE878) on_ hHeld.2.1), (cOp (nA hw875_0 GE878) on_ hHeld.2.2.1), (cOp (nA hw875_1 GE878) on_ hHeld.2.2.2.1), (cOp (nA hw876_0 GE878) on_ hHeld.2.2.2.2.1), (cOp (nA hw876_1 GE878) on_ hHeld.2.2.2.2.2.1), (cOp (nA hw877_0 GE878) on_ hHeld.2.2.2.2.2.2.1), (cOp (nA hw877_1 GE878) on_ hHeld.2.2.2.2.2.2.2)⟩)) (fun hHeld => ?_)
     clear hK K
     refine done_ (done_of HT_.out (by kernel_rfl)) ?_
     try go_wp2
     go_loopg [34] kj1 (fun kq i9 w' => ∃ (a2 : Int) (a8 : Int) (a7 : Int) (a6 : Int) (a5 : Int), i9 = .int .i64 a2 ∧ Aside0 (impl_BoxOf.l0 kq l0 (l0.length : Int) a2 a8 a7 a6 a5 = some (r1, r2, r3, r4)) ∧ Aside0 (kq ≤ kj1) ∧ Aside0 (w'.heap[d5]? = some (.cells #[.int .i64 0, .int .i64 0, .int .i64 0, .int .i64 0] 40 (0, 0))) ∧ Aside0 (w'.heap[e1]? = some (.cells #[.int .i64 a8, .int .i64 a7, .int .i64 a6, .int .i64 a5] 40 (0, 0))) ∧ Aside0 (Below w.heap.size w w'))
     case atStart => exact ⟨(0), ((rd_T111 l0 0).f0), ((rd_T111 l0 0).f1), ((rd_T111 l0 0).f0), ((rd_T111 l0 0).f1), fS, H', ⟨Nat.le_refl _⟩, ⟨kS⟩, ⟨kS⟩, ⟨bS⟩⟩
     case round =>
      clear H'
      try clear p2
      try clear c4
      try clear e3
      try clear g0
      try clear g4
      try clear c7
      try clear p8
      try clear q8
      try clear j9
      try clear qi8
      try clear c9
      try clear h4
      try clear h5
      try clear b7
      try clear b8
      try clear b9
      try clear d0
      try clear d1
      try clear d2
      try clear d3
      try clear d4
      try clear p2
      try clear e9
      try clear f4
      try clear f6
      try clear f8
      try clear f3
      try clear f5
      try clear f7
      try clear f9
      obtain ⟨a2, a8, a7, a6, a5, rfl, HA, i4, b0, a3, HB⟩ := hrel
      cases gk with
      | zero => exact absurd HA.out (by simp [impl_BoxOf.l0])
      | succ k2 =>
       have H := HA.out
       clear HA
       simp only [impl_BoxOf.l0] at H
       rcases iD H with ⟨g9, H⟩ | ⟨g9, H⟩
       ·obtain ⟨i5, H⟩ := iT H
        obtain ⟨i6, H⟩ := iT H
        obtain ⟨ji19, hji19⟩ : ∃ j_ : Int, (mn a8 ((rd_T111 l0 a2).f0)) = j_ := ⟨_, rfl⟩
        replace H : (impl_BoxOf.l0 k2 l0 (l0.length : Int) (wrap64 (a2 + 1)) ji19 (mn a7 ((rd_T111 l0 a2).f1)) (mx a6 ((rd_T111 l0 a2).f0)) (mx a5 ((rd_T111 l0 a2).f1))) = some (r1, r2, r3, r4) := by first | (rw [hji19] at H; exact H) | (simp only [hji19] at H ⊢; exact H)
        have hji19_ : (if ((rd_T111 l0 a2).f0) < a8 then ((rd_T111 l0 a2).f0) else a8) = ji19 := hji19
        obtain ⟨ji20, hji20⟩ : ∃ j_ : Int, (mn a7 ((rd_T111 l0 a2).f1)) = j_ := ⟨_, rfl⟩
        replace H : (impl_BoxOf.l0 k2 l0 (l0.length : Int) (wrap64 (a2 + 1)) ji19 ji20 (mx a6 ((rd_T111 l0 a2).f0)) (mx a5 ((rd_T111 l0 a2).f1))) = some (r1, r2, r3, r4) := by first | (rw [hji20] at H; exact H) | (simp only [hji20] at H ⊢; exact H)
        have hji20_ : (if ((rd_T111 l0 a2).f1) < a7 then ((rd_T111 l0 a2).f1) else a7) = ji20 := hji20
        obtain ⟨ji21, hji21⟩ : ∃ j_ : Int, (mx a6 ((rd_T111 l0 a2).f0)) = j_ := ⟨_, rfl⟩
        replace H : (impl_BoxOf.l0 k2 l0 (l0.length : Int) (wrap64 (a2 + 1)) ji19 ji20 ji21 (mx a5 ((rd_T111 l0 a2).f1))) = some (r1, r2, r3, r4) := by first | (rw [hji21] at H; exact H) | (simp only [hji21] at H ⊢; exact H)
        have hji21_ : (if a6 < ((rd_T111 l0 a2).f0) then ((rd_T111 l0 a2).f0) else a6) = ji21 := hji21
        obtain ⟨ji22, hji22⟩ : ∃ j_ : Int, (mx a5 ((rd_T111 l0 a2).f1)) = j_ := ⟨_, rfl⟩
        replace H : (impl_BoxOf.l0 k2 l0 (l0.length : Int) (wrap64 (a2 + 1)) ji19 ji20 ji21 ji22) = some (r1, r2, r3, r4) := by first | (rw [hji22] at H; exact H) | (simp only [hji22] at H ⊢; exact H)
        have hji22_ : (if a5 < ((rd_T111 l0 a2).f1) then ((rd_T111 l0 a2).f1) else a5) = ji22 := hji22
        have H' := aM H
        clear H
        have g1 : 0 ≤ (a2 : Int) := dA
        have g2 : a2 < (l0.length : Int) := dA
        obtain ⟨h0, i1, e5, e6⟩ := at_T111 g3.out a2 g1 g2
        obtain rfl : b1 = h0 := (by injection i1)
        replace e5 := cB HB e5
        replace e6 := cB HB e6
        replace g1 := eq_true g1
        replace g2 := eq_true g2
        try go_wp2_with (first | ((with_reducible refine gD 5 ?_); refine bxE #[.int .i64 0, .int .i64 0] 111 ?_; intro e2 hg j5 d6 hb; have GE880 := gE hg; have e7 := nL_ d5 hg; have e8 := nG_ d5 hg; have e0 := nL_ e1 hg; have a9 := nG_ e1 hg; replace b0 := kB_ d5 hb; replace a3 := kB_ e1 hb; replace HB := hB hb; clear hb hg; have hnb24 := nP e8 e7; have hnb25 := nP a9 e0; have hz26 := cz2 d6))
        obtain ⟨h1, hw_⟩ : ∃ w_ : World, w_ = ((j5.setCell ⟨e2, 0, none⟩ (.int .i64 ((rd_T111 l0 a2).f0))).setCell ⟨e2, 1, none⟩ (.int .i64 ((rd_T111 l0 a2).f1))) := ⟨_, rfl⟩
        have n0_ : Aside0 (h1.heap[d5]? = some (.cells #[.int .i64 0, .int .i64 0, .int .i64 0, .int .i64 0] 40 (0, 0))) := ⟨by rw [hw_]; exact kS⟩
        have n1_ : Aside0 (h1.heap[e1]? = some (.cells #[.int .i64 a8, .int .i64 a7, .int .i64 a6, .int .i64 a5] 40 (0, 0))) := ⟨by rw [hw_]; exact kS⟩
        have n2_ : Aside0 (h1.heap[e2]? = some (.cells #[.int .i64 ((rd_T111 l0 a2).f0), .int .i64 ((rd_T111 l0 a2).f1)] 111 (0, 0))) := ⟨by rw [hw_]; exact kS⟩
        have n3_ : Aside0 (Below w.heap.size w h1) := ⟨by rw [hw_]; exact bS⟩
        rw [← hw_]
        clear hw_ b0 a3 d6 HB
        have b0 := n0_
        have a3 := n1_
        have d6 := n2_
        have HB := n3_
        clear n0_ n1_ n2_ n3_
        replace b0 := bD b0
        replace a3 := bD a3
        replace d6 := bD d6
        replace HB := hD HB
        refine start_ (n := 14) (S := fun w' => w'.cell? ⟨e1, 1, none⟩ = some (.int .i64 a7) ∧ w'.cell? ⟨e2, 0, none⟩ = some (.int .i64 ((rd_T111 l0 a2).f0)) ∧ w'.cell? ⟨e2, 1, none⟩ = some (.int .i64 ((rd_T111 l0 a2).f1))) (ds := [13]) (mB 14 0) (by kernel_rfl) rfl rfl ⟨(blk_cell a3.out 1).trans rfl, cy2 d6⟩ (fun hHeld => ?_)
        generalize h1.drew = j6 at b0 a3 d6 HB hHeld ⊢
        refine pU 0 (some 38) (mB 14 1) ?_
        refine pU 2 (some 40) (mB 14 5) ?_
        refine pU 5 (some 43) (mB 14 37) ?_
        refine pU 7 (some 45) (mB 14 165) ?_
        refine tK 3 (some 41) (mB 14 173) ?_
        refine tK 6 (some 44) (mB 14 237) ?_
        refine tK 8 (some 46) (mB 14 493) ?_
        refine pU 9 (some 47) (mB 14 1005) ?_
        refine one_ (i := 1) (N := some 39) (mB 14 1007) rfl rfl (by kernel_rfl) (by decide) (fun K hK => ?_)
        have hl1_ := (blk_cell a3.out 0).trans (show _ = some (.int .i64 a8) from rfl)
        refine value_ (w1 := ?_) (v := ?_) (by rfl) rfl ?_ ?_
        rotate_left 2
        ·go_simp
         constructor
         ·rfl
         ·rfl
        refine hK.out _ _ ⟨hHeld.1, hHeld.2.1, hHeld.2.2⟩ (fun hHeld => ?_)
        clear hK K
        refine norm_ (a' := ?_) ?_ ?_
        rotate_left
        ·show Act.put _ (some 39) _ = _
         simp only [Act.put, List.setIfInBounds_toArray, List.set_cons_zero, List.set_cons_succ, i64_w, i32_w]
         rfl
        refine pU 4 (some 42) (mB 14 1023) ?_
        refine pU 10 (some 48) (mB 14 2047) ?_
        refine one_ (i := 11) (N := none) (mB 14 4095) rfl rfl (by kernel_rfl) (by decide) (fun K hK => ?_)
        have hs29 := cg0 a3
        have hfs29 := blk_frozen a3.out 0
        have hns29_0 := nP b2 a9
        have hms29_0 := b6.out
        have hms29_2 := e0.out
        refine skip_ (w1 := ?_) (by rfl) rfl ?_ ?_
        rotate_left
        ·go_simp
         rfl
        refine hK.out _ _ ⟨(cell_off (by decide) _).trans (hHeld.1), (cF a9 hHeld.2.1), (cF a9 hHeld.2.2)⟩ (fun hHeld => ?_)
        clear hK K
        refine pU 12 (some 49) (mB 14 8191) ?_
        refine last_ (i := 13) (N := none) (mB 14 16383) rfl rfl (by kernel_rfl) (by decide) (fun K hK => ?_)
        have hs30 := cg1 a3
        have hfs30 := blk_frozen a3.out 1
        have hns30_0 := nP b2 a9
        have hms30_0 := b6.out
        have hms30_2 := e0.out
        refine skip_ (w1 := ?_) (by rfl) rfl ?_ ?_
        rotate_left
        ·go_simp
         rfl
        refine hK.out _ _ ?_
        clear hK K
        refine done_ (by kernel_rfl) ?_
        try go_wp2
        obtain ⟨h2, hw_⟩ : ∃ w_ : World, w_ = ((j6.setCell ⟨e1, 0, none⟩ (.int .i64 ji19)).setCell ⟨e1, 1, none⟩ (.int .i64 ji20)) := ⟨_, rfl⟩
        have n0_ : Aside0 (h2.heap[d5]? = some (.cells #[.int .i64 0, .int .i64 0, .int .i64 0, .int .i64 0] 40 (0, 0))) := ⟨by rw [hw_]; exact kS⟩
        have n1_ : Aside0 (h2.heap[e1]? = some (.cells #[.int .i64 ji19, .int .i64 ji20, .int .i64 a6, .int .i64 a5] 40 (0, 0))) := ⟨by rw [hw_]; exact kS⟩
        have n2_ : Aside0 (h2.heap[e2]? = some (.cells #[.int .i64 ((rd_T111 l0 a2).f0), .int .i64 ((rd_T111 l0 a2).f1)] 111 (0, 0))) := ⟨by rw [hw_]; exact kS⟩
        have n3_ : Aside0 (Below w.heap.size w h2) := ⟨by rw [hw_]; exact bS⟩
        rw [← hw_]
        clear hw_ b0 a3 d6 HB
        have b0 := n0_
        have a3 := n1_
        have d6 := n2_
        have HB := n3_
        clear n0_ n1_ n2_ n3_
        replace b0 := bD b0
        replace a3 := bD a3
        replace d6 := bD d6
        replace HB := hD HB
        refine start_ (n := 14) (S := fun w' => w'.cell? ⟨e1, 3, none⟩ = some (.int .i64 a5) ∧ w'.cell? ⟨e2, 0, none⟩ = some (.int .i64 ((rd_T111 l0 a2).f0)) ∧ w'.cell? ⟨e2, 1, none⟩ = some (.int .i64 ((rd_T111 l0 a2).f1))) (ds := [13]) (mB 14 0) (by kernel_rfl) rfl rfl ⟨(blk_cell a3.out 3).trans rfl, cy2 d6⟩ (fun hHeld => ?_)
        generalize h2.drew = k0 at b0 a3 d6 HB hHeld ⊢
        refine pU 0 (some 50) (mB 14 1) ?_
        refine pU 2 (some 52) (mB 14 5) ?_
        refine pU 5 (some 55) (mB 14 37) ?_
        refine pU 7 (some 57) (mB 14 165) ?_
        refine tK 3 (some 53) (mB 14 173) ?_
        refine tK 6 (some 56) (mB 14 237) ?_
        refine tK 8 (some 58) (mB 14 493) ?_
        refine pU 9 (some 59) (mB 14 1005) ?_
        refine one_ (i := 1) (N := some 51) (mB 14 1007) rfl rfl (by kernel_rfl) (by decide) (fun K hK => ?_)
        have hl1_ := (blk_cell a3.out 2).trans (show _ = some (.int .i64 a6) from rfl)
        refine value_ (w1 := ?_) (v := ?_) (by rfl) rfl ?_ ?_
        rotate_left 2
        ·go_simp
         constructor
         ·rfl
         ·rfl
        refine hK.out _ _ ⟨hHeld.1, hHeld.2.1, hHeld.2.2⟩ (fun hHeld => ?_)
        clear hK K
        refine norm_ (a' := ?_) ?_ ?_
        rotate_left
        ·show Act.put _ (some 51) _ = _
         simp only [Act.put, List.setIfInBounds_toArray, List.set_cons_zero, List.set_cons_succ, i64_w, i32_w]
         rfl
        refine pU 4 (some 54) (mB 14 1023) ?_
        refine pU 10 (some 60) (mB 14 2047) ?_
        refine one_ (i := 11) (N := none) (mB 14 4095) rfl rfl (by kernel_rfl) (by decide) (fun K hK => ?_)
        have hs33 := cg2 a3
        have hfs33 := blk_frozen a3.out 2
        have hns33_0 := nP b2 a9
        have hms33_0 := b6.out
        have hms33_2 := e0.out
        refine skip_ (w1 := ?_) (by rfl) rfl ?_ ?_
        rotate_left
        ·go_simp
         rfl
        refine hK.out _ _ ⟨(cell_off (by decide) _).trans (hHeld.1), (cF a9 hHeld.2.1), (cF a9 hHeld.2.2)⟩ (fun hHeld => ?_)
        clear hK K
        refine pU 12 (some 61) (mB 14 8191) ?_
        refine last_ (i := 13) (N := none) (mB 14 16383) rfl rfl (by kernel_rfl) (by decide) (fun K hK => ?_)
        have hs34 := cg3 a3
        have hfs34 := blk_frozen a3.out 3
        have hns34_0 := nP b2 a9
        have hms34_0 := b6.out
        have hms34_2 := e0.out
        refine skip_ (w1 := ?_) (by rfl) rfl ?_ ?_
        rotate_left
        ·go_simp
         rfl
        refine hK.out _ _ ?_
        clear hK K
        refine done_ (by kernel_rfl) ?_
        try go_wp2
        go_roundg k2
        case measure => have := HJ1.out; have := i4.out; omega
        case rel => exact ⟨(wrap64 (a2 + 1)), (ji19), (ji20), (ji21), (ji22), fS, H', ⟨by have := HJ1.out; have := i4.out; omega⟩, ⟨kS⟩, ⟨kS⟩, ⟨bS⟩⟩
       ·obtain ⟨rfl, rfl, rfl, rfl⟩ := sI4 H
        have hnb35 := nP b6 b2
        have hz36 := cz4 a3
        have hz37 := cz4 b0
        go_wp2
        refine bodyPost_ret (results_cell_row rfl _ _ d5 40 #[.int .i64 a8, .int .i64 a7, .int .i64 a6, .int .i64 a5] (0, 0) _ rfl kS Tryz.underlying40 rfl (by kernel_rfl)) rfl ?_
        exact ⟨eS, bS⟩
    ·rw [if_neg c9] at H
     exact absurd H (by simp)
def impl_Identity.f  : Option (Int × Int × Int × Int) := some (0, 1, 0, 0)
theorem impl_Identity.calls  (r1 : Int) (r2 : Int) (r3 : Int) (r4 : Int) (w : World) (h : impl_Identity.f  = some (r1, r2, r3, r4)) :
  Calls Tryz.prog 93 #[] w fun e w' => e = .returned (.agg #[.int .i64 r1, .int .i64 r2, .int .i64 r3, .int .i64 r4]) ∧ Below w.heap.size w w' := by
 have hu38 := Tryz.underlying38
 have HB := aM (Below.refl w.heap.size w)
 have H := h
 clear h
 unfold impl_Identity.f at H
 obtain ⟨rfl, rfl, rfl, rfl⟩ := sI4 H
 go_enter Tryz.func93, Tryz.ntmps93
 go_wp2_with (first | ((with_reducible refine gD 0 ?_); refine bxE #[.int .i64 0, .int .i64 0, .int .i64 0, .int .i64 0] 38 ?_; intro a2 hg w1 a3 hb; have GE881 := gE hg; replace HB := hB hb; clear hb hg; have hz2 := cz4 a3))
 refine bodyPost_ret (results_cell_row rfl _ _ a2 38 #[.int .i64 0, .int .i64 1, .int .i64 0, .int .i64 0] (0, 0) _ rfl kS Tryz.underlying38 rfl (by kernel_rfl)) rfl ?_
 exact ⟨eS, bS⟩
end Go.Proofs.YtjkgponlahfnjaaGreat.QFnExactExecToken
