-- Made out of the translation by a program of this session (a changed copy of the print). Not trusted: Lean checks it.
import Derived.Test.YtjodcfjaedhpeaaQFnPagesx0
import Derived.Test.YtjodcfjaedhpeaaQFnPagesx14
namespace Go.Proofs.Ytjodcfjaedhpeaa.QFnPages
open Go.RowKit Go.Proofs.YtjodcfjaedhpeaaW.PrintWords Go.Proofs.YtjodcfjaedhpeaaW.PrintLast Go.Proofs.YtjodcfjaedhpeaaW.PrintMore
attribute [local go_sem] max2_int min2_int max_two min_two max_three min_three max_four min_four   -- for this text's walks alone
set_option linter.unusedVariables false
set_option linter.unusedSimpArgs false
set_option maxHeartbeats 8000000
set_option maxRecDepth 100000

/-! ### impl_copyPage: function 13 -/
def impl_copyPage.l0 : Nat → List (S31) → Int → Int → List Int → Int → Int → Int → Int → List (S80) → Int → Int → Int → Int → Int → List (S31) → List (S60) → Option (List Int × Int × Int × Int × Int × (List (S80)) × Int × Int × Int × Int × Int × (List (S31)) × (List (S60)))
 | 0, _, _, _, _, _, _, _, _, _, _, _, _, _, _, _, _ => none
 | k + 1, x14, x15, x16, a5, a6, a7, a8, a9, b0, b1, b2, b6, b7, b8, a3, b9 => if x16 < x15 then (if 0 ≤ x16 then (if x16 < (x14.length : Int) then ((impl_copyGraphics.f ((rd_T31 x14 x16).f0) ((rd_T31 x14 x16).f1.f0) ((rd_T31 x14 x16).f1.f1) ((rd_T31 x14 x16).f1.f2) ((rd_T31 x14 x16).f1.f3) ((rd_T31 x14 x16).f2) ((rd_T31 x14 x16).f3) ((rd_T31 x14 x16).f4.f0) ((rd_T31 x14 x16).f4.f1) ((rd_T31 x14 x16).f4.f2) ((rd_T31 x14 x16).f4.f3)).bind fun a2 => (if a3.length < 1172812402961 then (impl_copyPage.l0 k x14 x15 (wrap64 (x16 + 1)) a5 a6 a7 a8 a9 b0 b1 b2 b6 b7 b8 (a3 ++ [(⟨a2.1, (⟨a2.2.1, a2.2.2.1, a2.2.2.2.1, a2.2.2.2.2.1⟩ : S26), a2.2.2.2.2.2.1, a2.2.2.2.2.2.2.1, (⟨a2.2.2.2.2.2.2.2.1, a2.2.2.2.2.2.2.2.2.1, a2.2.2.2.2.2.2.2.2.2.1, a2.2.2.2.2.2.2.2.2.2.2⟩ : S29)⟩ : S31)]) b9) else (none))) else (none)) else (none)) else (some (a5, a6, a7, a8, a9, b0, b1, b2, b6, b7, b8, a3, b9))
def impl_copyPage.f (k : Nat) (a7 : List Int) (a8 : Int) (a9 : Int) (b0 : Int) (b1 : Int) (b2 : List (S80)) (b6 : Int) (b7 : Int) (b8 : Int) (b9 : Int) (a5 : Int) (a3 : List (S31)) (a6 : List (S60)) : Option (List Int × Int × Int × Int × Int × (List (S80)) × Int × Int × Int × Int × Int × (List (S31)) × (List (S60))) := (impl_copyGraphics.f a7 a8 a9 b0 b1 b2 b6 b7 b8 b9 a5).bind fun a2 => ((impl_copyObjects.f k a6).bind fun d0 => (impl_copyPage.l0 k a3 (a3.length : Int) 0 a2.1 a2.2.1 a2.2.2.1 a2.2.2.2.1 a2.2.2.2.2.1 a2.2.2.2.2.2.1 a2.2.2.2.2.2.2.1 a2.2.2.2.2.2.2.2.1 a2.2.2.2.2.2.2.2.2.1 a2.2.2.2.2.2.2.2.2.2.1 a2.2.2.2.2.2.2.2.2.2.2 ([] : List (S31)) d0))
def impl_copyPage.T1 : Bool × List (List Nat × List Nat) := (true, [([], []), ([0], [0]), ([1], [1]), ([], []), ([3], [3]), ([4, 2], [4]), ([2, 5], [2, 5]), ([], []), ([7, 6, 5, 0, 1, 2, 3, 4, 5, 6, 7], [6, 7])])
def impl_copyPage.B1 : List Nat := [0, 1, 3, 0, 8, 31, 63, 0, 255]
theorem impl_copyPage.tab1 : rtab .any (opsOf Try.f13 1) = impl_copyPage.T1 := by kernel_rfl
theorem impl_copyPage.bits1 : waitsOk impl_copyPage.T1.2 impl_copyPage.B1 = true := by kernel_rfl
def impl_copyPage.T5 : Bool × List (List Nat × List Nat) := (true, [([], []), ([0], [0]), ([], []), ([2], [2]), ([3], [3]), ([1, 4, 3], [1, 4]), ([0, 1, 2, 3, 4, 5], []), ([6, 5, 5, 0, 1, 2, 3, 4, 5], [5, 6])])
def impl_copyPage.B5 : List Nat := [0, 1, 0, 4, 12, 31, 63, 127]
theorem impl_copyPage.tab5 : rtab .any (opsOf Try.f13 5) = impl_copyPage.T5 := by kernel_rfl
theorem impl_copyPage.bits5 : waitsOk impl_copyPage.T5.2 impl_copyPage.B5 = true := by kernel_rfl
theorem impl_copyPage.calls (k : Nat) (g6 : Option Addr) (g7 : Nat) (e8 : List Int) (f6 : Int) (f7 : Int) (f8 : Int) (f9 : Int) (g8 : Option Addr) (g9 : Nat) (e9 : List (S80)) (g0 : Int) (g1 : Int) (g2 : Int) (g3 : Int) (e4 : Int) (h3 : Option Addr) (h2 : Nat) (a3 : List (S31)) (e5 : Option Addr) (e6 : Nat) (d6 : List (S60)) (r1 : List Int) (r2 : Int) (r3 : Int) (r4 : Int) (r5 : Int) (r6 : List (S80)) (r7 : Int) (r8 : Int) (r9 : Int) (v2 : Int) (v3 : Int) (v4 : List (S31)) (v5 : List (S60)) (w : World) (s1 : Kd.C (Kd.int .i64) w g6 e8.length e8) (s2 : e8.length ≤ g7) (s3 : Kd.C k80 w g8 e9.length e9) (s4 : e9.length ≤ g9) (m8 : Kd.C k31 w h3 a3.length a3) (m9 : a3.length ≤ h2) (n0 : Kd.C k60 w e5 d6.length d6) (n1 : d6.length ≤ e6) (h : impl_copyPage.f k e8 f6 f7 f8 f9 e9 g0 g1 g2 g3 e4 a3 d6 = some (r1, r2, r3, r4, r5, r6, r7, r8, r9, v2, v3, v4, v5)) :
  Calls Try.prog 13 #[.agg #[.slice g6 e8.length g7, .int .i64 f6, .int .i64 f7, .int .i64 f8, .int .i64 f9, .slice g8 e9.length g9, .int .i64 g0, .int .i64 g1, .int .i64 g2, .int .i64 g3, .int .i64 e4, .slice h3 a3.length h2, .slice e5 d6.length e6]] w fun e w' => ∃ v0_ v5_ v11_ v12_ : Value, e = .returned (.agg #[v0_, .int .i64 r2, .int .i64 r3, .int .i64 r4, .int .i64 r5, v5_, .int .i64 r7, .int .i64 r8, .int .i64 r9, .int .i64 v2, .int .i64 v3, v11_, v12_]) ∧ Kd.R (Kd.int .i64) 3 w' w.heap.size (fun _ => True) v0_ r1 ∧ Kd.R k80 80 w' w.heap.size (fun _ => True) v5_ r6 ∧ Kd.S k31 31 w' w.heap.size (fun k_ => some k_ ≠ (v0_ : Value).ownBlock ∧ some k_ ≠ (v5_ : Value).ownBlock) v11_ v4 ∧ Kd.S k60 60 w' w.heap.size (fun k_ => some k_ ≠ (v5_ : Value).ownBlock) v12_ v5 ∧ Below w.heap.size w w' := by
 have hu35 := Try.underlying35
 have hu31 := Try.underlying31
 have s5 := aM s1
 have s6 := aM s2
 clear s1 s2
 have s7 := aM s3
 have s8 := aM s4
 clear s3 s4
 have t0 := aM m8
 have v6 := aM m9
 clear m8 m9
 have k4 := aM n0
 have k5 := aM n1
 clear n0 n1
 have HB := aM (Below.refl w.heap.size w)
 have H := h
 clear h
 unfold impl_copyPage.f at H
 replace H := bN H
 obtain ⟨⟨e3, h8, h9, i1, i3, e2, i4, i5, i6, i7, i8⟩, A2, H⟩ := H
 replace H := bN H
 obtain ⟨f5, A3, H⟩ := H
 have H' := aM H
 clear H
 go_enter Try.func13, Try.ntmps13
 try go_wp2_with (first | ((with_reducible refine gD 1 ?_); refine bxE #[.slice g6 e8.length g7, .int .i64 f6, .int .i64 f7, .int .i64 f8, .int .i64 f9, .slice g8 e9.length g9, .int .i64 g0, .int .i64 g1, .int .i64 g2, .int .i64 g3, .int .i64 e4, .slice h3 a3.length h2, .slice e5 d6.length e6] 35 ?_; intro a5 hg w4 a2 hb; have GE807 := gE hg; replace HB := hB hb; clear hb hg) | ((with_reducible refine gD 2 ?_); refine bxE #[.slice none 0 0, .int .i64 0, .int .i64 0, .int .i64 0, .int .i64 0, .slice none 0 0, .int .i64 0, .int .i64 0, .int .i64 0, .int .i64 0, .int .i64 0, .slice none 0 0, .slice none 0 0] 35 ?_; intro b8 hg w5 d0 hb; have GE808 := gE hg; have h4 := nL_ a5 hg; have h5 := nG_ a5 hg; replace a2 := kB_ a5 hb; replace HB := hB hb; clear hb hg))
 replace a2 := bD a2
 replace d0 := bD d0
 replace HB := hD HB
 refine start_ (n := 9) (S := fun w' => w'.cell? ⟨a5, 0, none⟩ = some (.slice g6 e8.length g7) ∧ w'.cell? ⟨a5, 1, none⟩ = some (.int .i64 f6) ∧ w'.cell? ⟨a5, 2, none⟩ = some (.int .i64 f7) ∧ w'.cell? ⟨a5, 3, none⟩ = some (.int .i64 f8) ∧ w'.cell? ⟨a5, 4, none⟩ = some (.int .i64 f9) ∧ w'.cell? ⟨a5, 5, none⟩ = some (.slice g8 e9.length g9) ∧ w'.cell? ⟨a5, 6, none⟩ = some (.int .i64 g0) ∧ w'.cell? ⟨a5, 7, none⟩ = some (.int .i64 g1) ∧ w'.cell? ⟨a5, 8, none⟩ = some (.int .i64 g2) ∧ w'.cell? ⟨a5, 9, none⟩ = some (.int .i64 g3) ∧ w'.cell? ⟨a5, 10, none⟩ = some (.int .i64 e4) ∧ w'.cell? ⟨a5, 12, none⟩ = some (.slice e5 d6.length e6)) (ds := []) (mB 9 0) (by kernel_rfl) rfl rfl ⟨(blk_cell a2.out 0).trans rfl, (blk_cell a2.out 1).trans rfl, (blk_cell a2.out 2).trans rfl, (blk_cell a2.out 3).trans rfl, (blk_cell a2.out 4).trans rfl, (blk_cell a2.out 5).trans rfl, (blk_cell a2.out 6).trans rfl, (blk_cell a2.out 7).trans rfl, (blk_cell a2.out 8).trans rfl, (blk_cell a2.out 9).trans rfl, (blk_cell a2.out 10).trans rfl, (blk_cell a2.out 12).trans rfl⟩ (fun hHeld => ?_); refine with_tabW impl_copyPage.tab1 impl_copyPage.bits1 (fun HT_ HW_ => ?_)
 generalize w5.drew = w6 at a2 d0 HB hHeld ⊢
 refine pU 0 (some 6) (mB 9 1) ?_
 refine pU 3 (some 9) (mB 9 9) ?_
 refine tK 1 (some 7) (mB 9 11) ?_
 refine tK 4 (some 10) (mB 9 27) ?_
 refine join_ (σ := Value × Value × Value × Nat) 1 (mB 9 255) (fun s_ => [(8, .agg #[s_.1, .int .i64 h8, .int .i64 h9, .int .i64 i1, .int .i64 i3, s_.2.1, .int .i64 i4, .int .i64 i5, .int .i64 i6, .int .i64 i7, .int .i64 i8]), (11, s_.2.2.1), (3, .pointer (some ⟨s_.2.2.2, 0, none⟩)), (12, .agg #[s_.1, .int .i64 h8, .int .i64 h9, .int .i64 i1, .int .i64 i3, s_.2.1, .int .i64 i4, .int .i64 i5, .int .i64 i6, .int .i64 i7, .int .i64 i8, .slice none 0 0, s_.2.2.1])]) (fun s_ w' => (w'.cell? ⟨a5, 0, none⟩ = some (.slice g6 e8.length g7) ∧ w'.cell? ⟨a5, 1, none⟩ = some (.int .i64 f6) ∧ w'.cell? ⟨a5, 2, none⟩ = some (.int .i64 f7) ∧ w'.cell? ⟨a5, 3, none⟩ = some (.int .i64 f8) ∧ w'.cell? ⟨a5, 4, none⟩ = some (.int .i64 f9) ∧ w'.cell? ⟨a5, 5, none⟩ = some (.slice g8 e9.length g9) ∧ w'.cell? ⟨a5, 6, none⟩ = some (.int .i64 g0) ∧ w'.cell? ⟨a5, 7, none⟩ = some (.int .i64 g1) ∧ w'.cell? ⟨a5, 8, none⟩ = some (.int .i64 g2) ∧ w'.cell? ⟨a5, 9, none⟩ = some (.int .i64 g3) ∧ w'.cell? ⟨a5, 10, none⟩ = some (.int .i64 e4) ∧ w'.cell? ⟨a5, 12, none⟩ = some (.slice e5 d6.length e6)) ∧ (Kd.R (Kd.int .i64) 3 w' w.heap.size (fun _ => True) s_.1 e3) ∧ (Kd.R k80 80 w' w.heap.size (fun _ => True) s_.2.1 e2) ∧ (Kd.S k60 60 w' w.heap.size (fun k_ => some k_ ≠ (s_.2.1 : Value).ownBlock) s_.2.2.1 f5) ∧ (w'.heap[a5]? = some (.cells #[.slice g6 e8.length g7, .int .i64 f6, .int .i64 f7, .int .i64 f8, .int .i64 f9, .slice g8 e9.length g9, .int .i64 g0, .int .i64 g1, .int .i64 g2, .int .i64 g3, .int .i64 e4, .slice h3 a3.length h2, .slice e5 d6.length e6] 35 (0, 0))) ∧ (w'.heap[b8]? = some (.cells #[.slice none 0 0, .int .i64 0, .int .i64 0, .int .i64 0, .int .i64 0, .slice none 0 0, .int .i64 0, .int .i64 0, .int .i64 0, .int .i64 0, .int .i64 0, .slice none 0 0, .slice none 0 0] 35 (0, 0))) ∧ (w'.heap[s_.2.2.2]? = some (.cells #[.slice none 0 0, .int .i64 0, .int .i64 0, .int .i64 0, .int .i64 0, .slice none 0 0, .int .i64 0, .int .i64 0, .int .i64 0, .int .i64 0, .int .i64 0, .slice none 0 0, .slice none 0 0] 35 (0, 0))) ∧ (w.heap.size ≤ s_.2.2.2) ∧ (w.heap.size ≤ s_.2.2.2) ∧ (a5 ≠ s_.2.2.2) ∧ (s_.2.2.2 ≠ a5) ∧ (b8 ≠ s_.2.2.2) ∧ (s_.2.2.2 ≠ b8) ∧ (Below w.heap.size w w')) ?_ ?_
 rotate_left
 ·intro hCont
  refine two_ (i := 2) (j := 7) (Ni := some 8) (Nj := some 3) (mB 9 31) (mB 9 155) rfl rfl rfl rfl (two_of HT_.out (by kernel_rfl)) (by decide) (by decide) (fun K hK => ?_) (fun K hK => ?_)
  ·skip
   refine goes_ Try.func31 (by kernel_rfl) rfl #[.agg #[.slice g6 e8.length g7, .int .i64 f6, .int .i64 f7, .int .i64 f8, .int .i64 f9, .slice g8 e9.length g9, .int .i64 g0, .int .i64 g1, .int .i64 g2, .int .i64 g3, .int .i64 e4]] (by rfl) rfl rfl mA ?_
   with_reducible refine (impl_copyGraphics.calls _ _ e8 f6 f7 f8 f9 _ _ e9 g0 g1 g2 g3 e4 e3 h8 h9 i1 i3 e2 i4 i5 i6 i7 i8 _ ?side1 ?side2 ?side3 ?side4 A2.out).mono ?_
   (case side1 => exact cS (Kd.C_below s5.out HB.out))
   (case side2 => exact s6.out)
   (case side3 => exact cS (Kd.C_below s7.out HB.out))
   (case side4 => exact s8.out)
   rintro e w7 ⟨t1, q6, rfl, i9, n2, hb⟩
   refine ⟨_, rfl, ?_⟩
   have d5 := aM (Kd.R_lower i9 (below_size bS))
   have d2 := aM (Kd.R_lower n2 (below_size bS))
   replace a2 := kB_ a5 hb
   replace d0 := kB_ b8 hb
   replace HB := hB hb
   (try clear hb)
   (try clear t7)
   (try clear hk)
   (try clear hi)
   (try clear i9)
   (try clear n2)
   refine hK.out _ _ ⟨(blk_cell a2.out 0).trans rfl, (blk_cell a2.out 1).trans rfl, (blk_cell a2.out 2).trans rfl, (blk_cell a2.out 3).trans rfl, (blk_cell a2.out 4).trans rfl, (blk_cell a2.out 5).trans rfl, (blk_cell a2.out 6).trans rfl, (blk_cell a2.out 7).trans rfl, (blk_cell a2.out 8).trans rfl, (blk_cell a2.out 9).trans rfl, (blk_cell a2.out 10).trans rfl, (blk_cell a2.out 12).trans rfl⟩ (fun hHeld => ?_)
   clear hK K
   refine norm_ (a' := ?_) ?_ ?_
   rotate_left
   ·show Act.put _ (some 8) _ = _
    simp only [Act.put, List.setIfInBounds_toArray, List.set_cons_zero, List.set_cons_succ, i64_w, i32_w]
    rfl
   refine two_ (i := 5) (j := 7) (Ni := some 11) (Nj := some 3) (mB 9 63) (mB 9 159) rfl rfl rfl rfl (two_of HT_.out (by kernel_rfl)) (by decide) (by decide) (fun K hK => ?_) (fun K hK => ?_)
   ·skip
    refine goes_ Try.func32 (by kernel_rfl) rfl #[.slice e5 d6.length e6] (by rfl) rfl rfl mA ?_
    with_reducible refine (impl_copyObjects.calls k _ _ d6 f5 _ ?side1 ?side2 A3.out).mono ?_
    (case side1 => exact cS (Kd.C_below k4.out HB.out))
    (case side2 => exact k5.out)
    rintro e w8 ⟨q7, rfl, i9, hb⟩
    refine ⟨_, rfl, ?_⟩
    have e7 := aM (Kd.S_lower (Kd.S_new' i9 (Kd.R_lt (rS d2))) (below_size bS))
    replace d5 := rB d5 hb
    replace d2 := rB d2 hb
    replace a2 := kB_ a5 hb
    replace d0 := kB_ b8 hb
    replace HB := hB hb
    (try clear hb)
    (try clear t7)
    (try clear hk)
    (try clear hi)
    (try clear i9)
    obtain ⟨x7, x8, x3⟩ := Kd.S_slice e7.out
    (first | subst x3 | obtain ⟨rfl, rfl⟩ := slE x3)
    obtain ⟨n5, n6, k0⟩ := Kd.R_slice d2.out
    (first | subst k0 | obtain ⟨rfl, rfl⟩ := slE k0)
    obtain ⟨n7, n8, k2⟩ := Kd.R_slice d5.out
    (first | subst k2 | obtain ⟨rfl, rfl⟩ := slE k2)
    refine hK.out _ _ ⟨(blk_cell a2.out 0).trans rfl, (blk_cell a2.out 1).trans rfl, (blk_cell a2.out 2).trans rfl, (blk_cell a2.out 3).trans rfl, (blk_cell a2.out 4).trans rfl, (blk_cell a2.out 5).trans rfl, (blk_cell a2.out 6).trans rfl, (blk_cell a2.out 7).trans rfl, (blk_cell a2.out 8).trans rfl, (blk_cell a2.out 9).trans rfl, (blk_cell a2.out 10).trans rfl, (blk_cell a2.out 12).trans rfl⟩ (fun hHeld => ?_)
    clear hK K
    refine norm_ (a' := ?_) ?_ ?_
    rotate_left
    ·show Act.put _ (some 11) _ = _
     simp only [Act.put, List.setIfInBounds_toArray, List.set_cons_zero, List.set_cons_succ, i64_w, i32_w]
     rfl
    refine pU 6 (some 12) (mB 9 127) ?_
    refine one_ (i := 7) (N := some 3) (mB 9 255) rfl rfl (one_of HT_.out (by kernel_rfl)) (by decide) (fun K hK => ?_)
    refine box_step ?hg (N := 3) ?hd (cs := #[.slice none 0 0, .int .i64 0, .int .i64 0, .int .i64 0, .int .i64 0, .slice none 0 0, .int .i64 0, .int .i64 0, .int .i64 0, .int .i64 0, .int .i64 0, .slice none 0 0, .slice none 0 0]) (t := 35) ?hr ?_; (case hd => rfl); (case hg => rfl); (case hr => first | (go_simp; done) | (go_simp; rfl))
    intro b9 hg y5 hbox hb
    have a9 := aM (hbox)
    have GW827 := gE hg
    have GE827 := gE hg
    have b0 := nL_ a5 hg
    have d1 := nG_ a5 hg
    have d3 := nL_ b8 hg
    have d4 := nG_ b8 hg
    replace d5 := rB d5 hb
    replace d2 := rB d2 hb
    replace e7 := sB e7 hb
    replace a2 := kB_ a5 hb
    replace d0 := kB_ b8 hb
    replace HB := hB hb
    clear hb hg
    refine hK.out _ _ ⟨(blk_cell a2.out 0).trans rfl, (blk_cell a2.out 1).trans rfl, (blk_cell a2.out 2).trans rfl, (blk_cell a2.out 3).trans rfl, (blk_cell a2.out 4).trans rfl, (blk_cell a2.out 5).trans rfl, (blk_cell a2.out 6).trans rfl, (blk_cell a2.out 7).trans rfl, (blk_cell a2.out 8).trans rfl, (blk_cell a2.out 9).trans rfl, (blk_cell a2.out 10).trans rfl, (blk_cell a2.out 12).trans rfl⟩ (fun hHeld => ?_)
    clear hK K
    refine norm_ (a' := ?_) ?_ ?_
    rotate_left
    ·show Act.put _ (some 3) _ = _
     simp only [Act.put, List.setIfInBounds_toArray, List.set_cons_zero, List.set_cons_succ, i64_w, i32_w]
     rfl
    exact norm_ (by simp only [putAll, Act.put, List.setIfInBounds_toArray, List.set_cons_zero, List.set_cons_succ]) (hCont (.slice n7 e3.length n8, .slice n5 e2.length n6, .slice x7 f5.length x8, b9) _ ⟨hHeld, (rS d5), (rS d2), (by exact sM e7), kS, kS, kS, GW827.out, GE827.out, b0.out, d1.out, d3.out, d4.out, bS⟩)
   ·skip
    refine box_step ?hg (N := 3) ?hd (cs := #[.slice none 0 0, .int .i64 0, .int .i64 0, .int .i64 0, .int .i64 0, .slice none 0 0, .int .i64 0, .int .i64 0, .int .i64 0, .int .i64 0, .int .i64 0, .slice none 0 0, .slice none 0 0]) (t := 35) ?hr ?_; (case hd => rfl); (case hg => rfl); (case hr => first | (go_simp; done) | (go_simp; rfl))
    intro b9 hg w8 hbox hb
    have a9 := aM (hbox)
    have GW827 := gE hg
    have GE827 := gE hg
    have b0 := nL_ a5 hg
    have d1 := nG_ a5 hg
    have d3 := nL_ b8 hg
    have d4 := nG_ b8 hg
    replace d5 := rB d5 hb
    replace d2 := rB d2 hb
    replace a2 := kB_ a5 hb
    replace d0 := kB_ b8 hb
    replace HB := hB hb
    clear hb hg
    refine hK.out _ _ ⟨(blk_cell a2.out 0).trans rfl, (blk_cell a2.out 1).trans rfl, (blk_cell a2.out 2).trans rfl, (blk_cell a2.out 3).trans rfl, (blk_cell a2.out 4).trans rfl, (blk_cell a2.out 5).trans rfl, (blk_cell a2.out 6).trans rfl, (blk_cell a2.out 7).trans rfl, (blk_cell a2.out 8).trans rfl, (blk_cell a2.out 9).trans rfl, (blk_cell a2.out 10).trans rfl, (blk_cell a2.out 12).trans rfl⟩ (fun hHeld => ?_)
    clear hK K
    refine norm_ (a' := ?_) ?_ ?_
    rotate_left
    ·show Act.put _ (some 3) _ = _
     simp only [Act.put, List.setIfInBounds_toArray, List.set_cons_zero, List.set_cons_succ, i64_w, i32_w]
     rfl
    refine one_ (i := 5) (N := some 11) (mB 9 191) rfl rfl (one_of HT_.out (by kernel_rfl)) (by decide) (fun K hK => ?_)
    refine goes_ Try.func32 (by kernel_rfl) rfl #[.slice e5 d6.length e6] (by rfl) rfl rfl mA ?_
    with_reducible refine (impl_copyObjects.calls k _ _ d6 f5 _ ?side1 ?side2 A3.out).mono ?_
    (case side1 => exact cS (Kd.C_below k4.out HB.out))
    (case side2 => exact k5.out)
    rintro e w9 ⟨q7, rfl, i9, hb⟩
    refine ⟨_, rfl, ?_⟩
    have e7 := aM (Kd.S_lower (Kd.S_new' i9 (Kd.R_lt (rS d2))) (below_size bS))
    replace d5 := rB d5 hb
    replace d2 := rB d2 hb
    replace a2 := kB_ a5 hb
    replace d0 := kB_ b8 hb
    replace a9 := kB_ b9 hb
    replace HB := hB hb
    (try clear hb)
    (try clear t7)
    (try clear hk)
    (try clear hi)
    (try clear i9)
    obtain ⟨n5, n6, k0⟩ := Kd.S_slice e7.out
    (first | subst k0 | obtain ⟨rfl, rfl⟩ := slE k0)
    obtain ⟨n7, n8, k2⟩ := Kd.R_slice d2.out
    (first | subst k2 | obtain ⟨rfl, rfl⟩ := slE k2)
    obtain ⟨t2, t3, o0⟩ := Kd.R_slice d5.out
    (first | subst o0 | obtain ⟨rfl, rfl⟩ := slE o0)
    refine hK.out _ _ ⟨(blk_cell a2.out 0).trans rfl, (blk_cell a2.out 1).trans rfl, (blk_cell a2.out 2).trans rfl, (blk_cell a2.out 3).trans rfl, (blk_cell a2.out 4).trans rfl, (blk_cell a2.out 5).trans rfl, (blk_cell a2.out 6).trans rfl, (blk_cell a2.out 7).trans rfl, (blk_cell a2.out 8).trans rfl, (blk_cell a2.out 9).trans rfl, (blk_cell a2.out 10).trans rfl, (blk_cell a2.out 12).trans rfl⟩ (fun hHeld => ?_)
    clear hK K
    refine norm_ (a' := ?_) ?_ ?_
    rotate_left
    ·show Act.put _ (some 11) _ = _
     simp only [Act.put, List.setIfInBounds_toArray, List.set_cons_zero, List.set_cons_succ, i64_w, i32_w]
     rfl
    refine pU 6 (some 12) (mB 9 255) ?_
    exact norm_ (by simp only [putAll, Act.put, List.setIfInBounds_toArray, List.set_cons_zero, List.set_cons_succ]) (hCont (.slice t2 e3.length t3, .slice n7 e2.length n8, .slice n5 f5.length n6, b9) _ ⟨hHeld, (rS d5), (rS d2), (by exact sM e7), kS, kS, kS, GW827.out, GE827.out, b0.out, d1.out, d3.out, d4.out, bS⟩)
  ·skip
   refine box_step ?hg (N := 3) ?hd (cs := #[.slice none 0 0, .int .i64 0, .int .i64 0, .int .i64 0, .int .i64 0, .slice none 0 0, .int .i64 0, .int .i64 0, .int .i64 0, .int .i64 0, .int .i64 0, .slice none 0 0, .slice none 0 0]) (t := 35) ?hr ?_; (case hd => rfl); (case hg => rfl); (case hr => first | (go_simp; done) | (go_simp; rfl))
   intro b9 hg w7 hbox hb
   have a9 := aM (hbox)
   have GW827 := gE hg
   have GE827 := gE hg
   have b0 := nL_ a5 hg
   have d1 := nG_ a5 hg
   have d3 := nL_ b8 hg
   have d4 := nG_ b8 hg
   replace a2 := kB_ a5 hb
   replace d0 := kB_ b8 hb
   replace HB := hB hb
   clear hb hg
   refine hK.out _ _ ⟨(blk_cell a2.out 0).trans rfl, (blk_cell a2.out 1).trans rfl, (blk_cell a2.out 2).trans rfl, (blk_cell a2.out 3).trans rfl, (blk_cell a2.out 4).trans rfl, (blk_cell a2.out 5).trans rfl, (blk_cell a2.out 6).trans rfl, (blk_cell a2.out 7).trans rfl, (blk_cell a2.out 8).trans rfl, (blk_cell a2.out 9).trans rfl, (blk_cell a2.out 10).trans rfl, (blk_cell a2.out 12).trans rfl⟩ (fun hHeld => ?_)
   clear hK K
   refine norm_ (a' := ?_) ?_ ?_
   rotate_left
   ·show Act.put _ (some 3) _ = _
    simp only [Act.put, List.setIfInBounds_toArray, List.set_cons_zero, List.set_cons_succ, i64_w, i32_w]
    rfl
   refine one_ (i := 2) (N := some 8) (mB 9 159) rfl rfl (one_of HT_.out (by kernel_rfl)) (by decide) (fun K hK => ?_)
   refine goes_ Try.func31 (by kernel_rfl) rfl #[.agg #[.slice g6 e8.length g7, .int .i64 f6, .int .i64 f7, .int .i64 f8, .int .i64 f9, .slice g8 e9.length g9, .int .i64 g0, .int .i64 g1, .int .i64 g2, .int .i64 g3, .int .i64 e4]] (by rfl) rfl rfl mA ?_
   with_reducible refine (impl_copyGraphics.calls _ _ e8 f6 f7 f8 f9 _ _ e9 g0 g1 g2 g3 e4 e3 h8 h9 i1 i3 e2 i4 i5 i6 i7 i8 _ ?side1 ?side2 ?side3 ?side4 A2.out).mono ?_
   (case side1 => exact cS (Kd.C_below s5.out HB.out))
   (case side2 => exact s6.out)
   (case side3 => exact cS (Kd.C_below s7.out HB.out))
   (case side4 => exact s8.out)
   rintro e w8 ⟨t1, q6, rfl, i9, n2, hb⟩
   refine ⟨_, rfl, ?_⟩
   have d5 := aM (Kd.R_lower i9 (below_size bS))
   have d2 := aM (Kd.R_lower n2 (below_size bS))
   replace a2 := kB_ a5 hb
   replace d0 := kB_ b8 hb
   replace a9 := kB_ b9 hb
   replace HB := hB hb
   (try clear hb)
   (try clear t7)
   (try clear hk)
   (try clear hi)
   (try clear i9)
   (try clear n2)
   refine hK.out _ _ ⟨(blk_cell a2.out 0).trans rfl, (blk_cell a2.out 1).trans rfl, (blk_cell a2.out 2).trans rfl, (blk_cell a2.out 3).trans rfl, (blk_cell a2.out 4).trans rfl, (blk_cell a2.out 5).trans rfl, (blk_cell a2.out 6).trans rfl, (blk_cell a2.out 7).trans rfl, (blk_cell a2.out 8).trans rfl, (blk_cell a2.out 9).trans rfl, (blk_cell a2.out 10).trans rfl, (blk_cell a2.out 12).trans rfl⟩ (fun hHeld => ?_)
   clear hK K
   refine norm_ (a' := ?_) ?_ ?_
   rotate_left
   ·show Act.put _ (some 8) _ = _
    simp only [Act.put, List.setIfInBounds_toArray, List.set_cons_zero, List.set_cons_succ, i64_w, i32_w]
    rfl
   refine one_ (i := 5) (N := some 11) (mB 9 191) rfl rfl (one_of HT_.out (by kernel_rfl)) (by decide) (fun K hK => ?_)
   refine goes_ Try.func32 (by kernel_rfl) rfl #[.slice e5 d6.length e6] (by rfl) rfl rfl mA ?_
   with_reducible refine (impl_copyObjects.calls k _ _ d6 f5 _ ?side1 ?side2 A3.out).mono ?_
   (case side1 => exact cS (Kd.C_below k4.out HB.out))
   (case side2 => exact k5.out)
   rintro e w9 ⟨q7, rfl, i9, hb⟩
   refine ⟨_, rfl, ?_⟩
   have e7 := aM (Kd.S_lower (Kd.S_new' i9 (Kd.R_lt (rS d2))) (below_size bS))
   replace d5 := rB d5 hb
   replace d2 := rB d2 hb
   replace a2 := kB_ a5 hb
   replace d0 := kB_ b8 hb
   replace a9 := kB_ b9 hb
   replace HB := hB hb
   (try clear hb)
   (try clear t7)
   (try clear hk)
   (try clear hi)
   (try clear i9)
   obtain ⟨n5, n6, k0⟩ := Kd.S_slice e7.out
   (first | subst k0 | obtain ⟨rfl, rfl⟩ := slE k0)
   obtain ⟨n7, n8, k2⟩ := Kd.R_slice d2.out
   (first | subst k2 | obtain ⟨rfl, rfl⟩ := slE k2)
   obtain ⟨t2, t3, o0⟩ := Kd.R_slice d5.out
   (first | subst o0 | obtain ⟨rfl, rfl⟩ := slE o0)
   refine hK.out _ _ ⟨(blk_cell a2.out 0).trans rfl, (blk_cell a2.out 1).trans rfl, (blk_cell a2.out 2).trans rfl, (blk_cell a2.out 3).trans rfl, (blk_cell a2.out 4).trans rfl, (blk_cell a2.out 5).trans rfl, (blk_cell a2.out 6).trans rfl, (blk_cell a2.out 7).trans rfl, (blk_cell a2.out 8).trans rfl, (blk_cell a2.out 9).trans rfl, (blk_cell a2.out 10).trans rfl, (blk_cell a2.out 12).trans rfl⟩ (fun hHeld => ?_)
   clear hK K
   refine norm_ (a' := ?_) ?_ ?_
   rotate_left
   ·show Act.put _ (some 11) _ = _
    simp only [Act.put, List.setIfInBounds_toArray, List.set_cons_zero, List.set_cons_succ, i64_w, i32_w]
    rfl
   refine pU 6 (some 12) (mB 9 255) ?_
   exact norm_ (by simp only [putAll, Act.put, List.setIfInBounds_toArray, List.set_cons_zero, List.set_cons_succ]) (hCont (.slice t2 e3.length t3, .slice n7 e2.length n8, .slice n5 f5.length n6, b9) _ ⟨hHeld, (rS d5), (rS d2), (by exact sM e7), kS, kS, kS, GW827.out, GE827.out, b0.out, d1.out, d3.out, d4.out, bS⟩)
 rintro ⟨t1, q6, q7, b9⟩ j5 ⟨hS_, h0_, h1_, h2_, h3_, h4_, h5_, h6_, h7_, h8_, h9_, h10_, h11_, h12_⟩
 have d5 : Aside0 (Kd.R (Kd.int .i64) 3 j5 w.heap.size (fun _ => True) t1 e3) := ⟨h0_⟩
 have d2 : Aside0 (Kd.R k80 80 j5 w.heap.size (fun _ => True) q6 e2) := ⟨h1_⟩
 have e7 : Aside0 (Kd.S k60 60 j5 w.heap.size (fun k_ => some k_ ≠ (q6 : Value).ownBlock) q7 f5) := ⟨h2_⟩
 have a9 : Aside0 (j5.heap[b9]? = some (.cells #[.slice none 0 0, .int .i64 0, .int .i64 0, .int .i64 0, .int .i64 0, .slice none 0 0, .int .i64 0, .int .i64 0, .int .i64 0, .int .i64 0, .int .i64 0, .slice none 0 0, .slice none 0 0] 35 (0, 0))) := ⟨h5_⟩
 have GW827 : Aside0 (w.heap.size ≤ b9) := ⟨h6_⟩
 have GE827 : Aside0 (w.heap.size ≤ b9) := ⟨h7_⟩
 have b0 : Aside0 (a5 ≠ b9) := ⟨h8_⟩
 have d1 : Aside0 (b9 ≠ a5) := ⟨h9_⟩
 have d3 : Aside0 (b8 ≠ b9) := ⟨h10_⟩
 have d4 : Aside0 (b9 ≠ b8) := ⟨h11_⟩
 replace a2 : Aside0 (j5.heap[a5]? = some (.cells #[.slice g6 e8.length g7, .int .i64 f6, .int .i64 f7, .int .i64 f8, .int .i64 f9, .slice g8 e9.length g9, .int .i64 g0, .int .i64 g1, .int .i64 g2, .int .i64 g3, .int .i64 e4, .slice h3 a3.length h2, .slice e5 d6.length e6] 35 (0, 0))) := ⟨h3_⟩
 replace d0 : Aside0 (j5.heap[b8]? = some (.cells #[.slice none 0 0, .int .i64 0, .int .i64 0, .int .i64 0, .int .i64 0, .slice none 0 0, .int .i64 0, .int .i64 0, .int .i64 0, .int .i64 0, .int .i64 0, .slice none 0 0, .slice none 0 0] 35 (0, 0))) := ⟨h4_⟩
 replace HB : Aside0 (Below w.heap.size w j5) := ⟨h12_⟩
 clear h0_ h1_ h2_ h3_ h4_ h5_ h6_ h7_ h8_ h9_ h10_ h11_ h12_
 have hHeld : j5.cell? ⟨a5, 0, none⟩ = some (.slice g6 e8.length g7) ∧ j5.cell? ⟨a5, 1, none⟩ = some (.int .i64 f6) ∧ j5.cell? ⟨a5, 2, none⟩ = some (.int .i64 f7) ∧ j5.cell? ⟨a5, 3, none⟩ = some (.int .i64 f8) ∧ j5.cell? ⟨a5, 4, none⟩ = some (.int .i64 f9) ∧ j5.cell? ⟨a5, 5, none⟩ = some (.slice g8 e9.length g9) ∧ j5.cell? ⟨a5, 6, none⟩ = some (.int .i64 g0) ∧ j5.cell? ⟨a5, 7, none⟩ = some (.int .i64 g1) ∧ j5.cell? ⟨a5, 8, none⟩ = some (.int .i64 g2) ∧ j5.cell? ⟨a5, 9, none⟩ = some (.int .i64 g3) ∧ j5.cell? ⟨a5, 10, none⟩ = some (.int .i64 e4) ∧ j5.cell? ⟨a5, 12, none⟩ = some (.slice e5 d6.length e6) := hS_
 obtain ⟨o1, o4, t8⟩ := Kd.S_slice e7.out
 (first | subst t8 | obtain ⟨rfl, rfl⟩ := slE t8)
 obtain ⟨g4, g5, t9⟩ := Kd.R_slice d2.out
 (first | subst t9 | obtain ⟨rfl, rfl⟩ := slE t9)
 obtain ⟨h0, h1, u0⟩ := Kd.R_slice d5.out
 (first | subst u0 | obtain ⟨rfl, rfl⟩ := slE u0)
 refine norm_ (a' := ?_) ?_ ?_
 rotate_left
 ·simp only [putAll, Act.put, List.setIfInBounds_toArray, List.set_cons_zero, List.set_cons_succ]
  rfl
 refine one_ (i := 8) (N := none) (mB 9 511) rfl rfl (one_of HT_.out (by kernel_rfl)) (by decide) (fun K hK => ?_)
 have hs17 := cg0 a9
 have hfs17 := blk_frozen a9.out 0
 have hns17_0 := nP b0 d3
 have hms17_0 := d1.out
 have hms17_1 := d4.out
 have hs18 := cg1 a9
 have hfs18 := blk_frozen a9.out 1
 have hs19 := cg2 a9
 have hfs19 := blk_frozen a9.out 2
 have hs20 := cg3 a9
 have hfs20 := blk_frozen a9.out 3
 have hs21 := cg4 a9
 have hfs21 := blk_frozen a9.out 4
 have hs22 := cg5 a9
 have hfs22 := blk_frozen a9.out 5
 have hs23 := cg6 a9
 have hfs23 := blk_frozen a9.out 6
 have hs24 := cg7 a9
 have hfs24 := blk_frozen a9.out 7
 have hs25 := cg8 a9
 have hfs25 := blk_frozen a9.out 8
 have hs26 := cg9 a9
 have hfs26 := blk_frozen a9.out 9
 have hs27 := cg10 a9
 have hfs27 := blk_frozen a9.out 10
 have hs28 := cg11 a9
 have hfs28 := blk_frozen a9.out 11
 have hs29 := cg12 a9
 have hfs29 := blk_frozen a9.out 12
 refine skip_ (w1 := ?_) (by rfl) rfl ?_ ?_
 rotate_left
 ·go_simp
  rfl
 refine hK.out _ _ (onW (g := b9) (fun on_ => ⟨(cO b0 on_ hHeld.1), (cO b0 on_ hHeld.2.1), (cO b0 on_ hHeld.2.2.1), (cO b0 on_ hHeld.2.2.2.1), (cO b0 on_ hHeld.2.2.2.2.1), (cO b0 on_ hHeld.2.2.2.2.2.1), (cO b0 on_ hHeld.2.2.2.2.2.2.1), (cO b0 on_ hHeld.2.2.2.2.2.2.2.1), (cO b0 on_ hHeld.2.2.2.2.2.2.2.2.1), (cO b0 on_ hHeld.2.2.2.2.2.2.2.2.2.1), (cO b0 on_ hHeld.2.2.2.2.2.2.2.2.2.2.1), (cO b0 on_ hHeld.2.2.2.2.2.2.2.2.2.2.2)⟩)) (fun hHeld => ?_)
 clear hK K
 refine done_ (done_of HT_.out (by kernel_rfl)) ?_
 have hnb30 := nP h4 h5
 have hnb31 := nP b0 d1
 have u1 := cg11 a2
 try go_wp2
 go_loopg [16] k (fun kq x9 w' => ∃ (a6 : Int) (e1 : List (S31)) (e0 : Value), x9 = .int .i64 a6 ∧ Aside0 (impl_copyPage.l0 kq a3 (a3.length : Int) a6 e3 h8 h9 i1 i3 e2 i4 i5 i6 i7 i8 e1 f5 = some (r1, r2, r3, r4, r5, r6, r7, r8, r9, v2, v3, v4, v5)) ∧ Aside0 (kq ≤ k) ∧ Aside0 (Kd.R (Kd.int .i64) 3 w' w.heap.size (fun _ => True) (.slice h0 e3.length h1) e3) ∧ Aside0 (Kd.R k80 80 w' w.heap.size (fun _ => True) (.slice g4 e2.length g5) e2) ∧ Aside0 (Kd.S k31 31 w' w.heap.size (fun k_ => some k_ ≠ ((.slice h0 e3.length h1) : Value).ownBlock ∧ some k_ ≠ ((.slice g4 e2.length g5) : Value).ownBlock) e0 e1) ∧ Aside0 (Kd.S k60 60 w' w.heap.size (fun k_ => some k_ ≠ ((.slice g4 e2.length g5) : Value).ownBlock) (.slice o1 f5.length o4) f5) ∧ Aside0 (w'.heap[a5]? = some (.cells #[(.slice g6 e8.length g7), .int .i64 f6, .int .i64 f7, .int .i64 f8, .int .i64 f9, (.slice g8 e9.length g9), .int .i64 g0, .int .i64 g1, .int .i64 g2, .int .i64 g3, .int .i64 e4, (.slice h3 a3.length h2), (.slice e5 d6.length e6)] 35 (0, 0))) ∧ Aside0 (w'.heap[b8]? = some (.cells #[(.slice none 0 0), .int .i64 0, .int .i64 0, .int .i64 0, .int .i64 0, (.slice none 0 0), .int .i64 0, .int .i64 0, .int .i64 0, .int .i64 0, .int .i64 0, (.slice none 0 0), (.slice none 0 0)] 35 (0, 0))) ∧ Aside0 (w'.heap[b9]? = some (.cells #[(.slice h0 e3.length h1), .int .i64 h8, .int .i64 h9, .int .i64 i1, .int .i64 i3, (.slice g4 e2.length g5), .int .i64 i4, .int .i64 i5, .int .i64 i6, .int .i64 i7, .int .i64 i8, e0, (.slice o1 f5.length o4)] 35 (0, 0))) ∧ Aside0 (Below w.heap.size w w'))
 case atStart => exact ⟨(0), (([] : List (S31))), (.slice none 0 0), fS, H', ⟨Nat.le_refl _⟩, ⟨rW [b9] d5 a9⟩, ⟨rW [b9] d2 a9⟩, ⟨by first | exact Kd.S_nil _ _ _ _ _ | exact Kd.N_nil _ _ _ _ _ | exact Kd.V_nil _ _ _ _ _ | exact Kd.Q_nil _ _ _ _ _ | exact Kd.R_nil _ _ _ _ _⟩, ⟨sW [b9] e7 a9⟩, ⟨kS⟩, ⟨kS⟩, ⟨kS⟩, ⟨bS⟩⟩
 case round =>
  clear H'
  try clear c1
  try clear p2
  try clear c3
  try clear y6
  try clear y7
  try clear y8
  try clear y9
  obtain ⟨a6, e1, e0, rfl, HA, x4, b1, b2, a8, b7, a2, d0, a9, HB⟩ := hrel
  cases gk with
  | zero => exact absurd HA.out (by simp [impl_copyPage.l0])
  | succ k1 =>
   have H := HA.out
   clear HA
   simp only [impl_copyPage.l0] at H
   rcases iD H with ⟨u2, H⟩ | ⟨u2, H⟩
   ·obtain ⟨x5, H⟩ := iT H
    obtain ⟨x6, H⟩ := iT H
    replace H := bN H
    obtain ⟨⟨m2, o5, o6, o7, o8, m3, o9, q0, q2, q3, q4⟩, y0, H⟩ := H
    obtain ⟨LMc37, H⟩ := iL H
    obtain ⟨t4, hy_⟩ : ∃ y_ : List (S31), y_ = (e1 ++ [(⟨m2, (⟨o5, o6, o7, o8⟩ : S26), m3, o9, (⟨q0, q2, q3, q4⟩ : S29)⟩ : S31)]) := ⟨_, rfl⟩
    replace H : (impl_copyPage.l0 k1 a3 (a3.length : Int) (wrap64 (a6 + 1)) e3 h8 h9 i1 i3 e2 i4 i5 i6 i7 i8 t4 f5) = some (r1, r2, r3, r4, r5, r6, r7, r8, r9, v2, v3, v4, v5) := yS
    have Ny845 := aM hy_
    clear hy_
    have H' := aM H
    clear H
    have t5 : 0 ≤ (a6 : Int) := dA
    have t6 : a6 < (a3.length : Int) := dA
    obtain ⟨u3, j6, j7, j8, j9, v7, k6, k7, k9, l3, l4, l5, l6, l7, l8, l9, k3, hl828_0, hi828_0, hl828_5, hi828_5⟩ := at_T31 t0.out a6 t5 t6
    cases v7
    replace k6 := cB HB k6
    replace k7 := cB HB k7
    replace k9 := cB HB k9
    replace l3 := cB HB l3
    replace l4 := cB HB l4
    replace l5 := cB HB l5
    replace l6 := cB HB l6
    replace l7 := cB HB l7
    replace l8 := cB HB l8
    replace l9 := cB HB l9
    replace k3 := cB HB k3
    have q8 := aM hi828_0
    have q9 := aM hl828_0
    clear hi828_0 hl828_0
    have r0 := aM hi828_5
    have s0 := aM hl828_5
    clear hi828_5 hl828_5
    replace t5 := eq_true t5
    replace t6 := eq_true t6
    try go_wp2_with (first | ((with_reducible refine gD 5 ?_); refine bxE #[.slice none 0 0, .int .i64 0, .int .i64 0, .int .i64 0, .int .i64 0, .slice none 0 0, .int .i64 0, .int .i64 0, .int .i64 0, .int .i64 0, .int .i64 0] 31 ?_; intro b6 hg y1 a7 hb; have GE829 := gE hg; have m4 := nL_ a5 hg; have m5 := nG_ a5 hg; have m6 := nL_ b8 hg; have m7 := nG_ b8 hg; have h6 := nL_ b9 hg; have h7 := nG_ b9 hg; replace b1 := rB b1 hb; replace b2 := rB b2 hb; replace a8 := aM (Kd.S_below (Kd.S_elderB (sS a8) b6 (Nat.le_of_eq hg.symm)) hb); replace b7 := sB b7 hb; replace a2 := kB_ a5 hb; replace d0 := kB_ b8 hb; replace a9 := kB_ b9 hb; replace HB := hB hb; clear hb hg; have hnb39 := nP m5 m4; have hnb40 := nP m7 m6; have hnb41 := nP h7 h6; have hz42 := cz11 a7))
    obtain ⟨q5, hw_⟩ : ∃ w_ : World, w_ = (((((((((((y1.setCell ⟨b6, 0, none⟩ (.slice j6 ((rd_T31 a3 a6).f0).length j7)).setCell ⟨b6, 1, none⟩ (.int .i64 ((rd_T31 a3 a6).f1.f0))).setCell ⟨b6, 2, none⟩ (.int .i64 ((rd_T31 a3 a6).f1.f1))).setCell ⟨b6, 3, none⟩ (.int .i64 ((rd_T31 a3 a6).f1.f2))).setCell ⟨b6, 4, none⟩ (.int .i64 ((rd_T31 a3 a6).f1.f3))).setCell ⟨b6, 5, none⟩ (.slice j8 ((rd_T31 a3 a6).f2).length j9)).setCell ⟨b6, 6, none⟩ (.int .i64 ((rd_T31 a3 a6).f3))).setCell ⟨b6, 7, none⟩ (.int .i64 ((rd_T31 a3 a6).f4.f0))).setCell ⟨b6, 8, none⟩ (.int .i64 ((rd_T31 a3 a6).f4.f1))).setCell ⟨b6, 9, none⟩ (.int .i64 ((rd_T31 a3 a6).f4.f2))).setCell ⟨b6, 10, none⟩ (.int .i64 ((rd_T31 a3 a6).f4.f3))) := ⟨_, rfl⟩
    have n0_ : Aside0 (Kd.R (Kd.int .i64) 3 q5 w.heap.size (fun _ => True) (.slice h0 e3.length h1) e3) := ⟨by rw [hw_]; exact (by exact Kd.R_mono (R_on (g := b6) (Kd.R_types b1.out a7.out (by decide)) (fun _ hk => hk.2)) (fun _ hk => trivial))⟩
    have n1_ : Aside0 (Kd.R k80 80 q5 w.heap.size (fun _ => True) (.slice g4 e2.length g5) e2) := ⟨by rw [hw_]; exact (by exact Kd.R_mono (R_on (g := b6) (Kd.R_types b2.out a7.out (by decide)) (fun _ hk => hk.2)) (fun _ hk => trivial))⟩
    have n2_ : Aside0 (Kd.S k31 31 q5 w.heap.size (fun k_ => some k_ ≠ (.slice h0 e3.length h1 : Value).ownBlock ∧ some k_ ≠ (.slice g4 e2.length g5 : Value).ownBlock ∧ k_ ≠ b6) e0 e1) := ⟨by rw [hw_]; exact (by exact Kd.S_mono (S_on (g := b6) (Kd.S_mono a8.out (fun k_ hk => (⟨hk, hk.2⟩ : _ ∧ k_ ≠ b6))) (fun _ hk => hk.2)) (fun _ hk => ⟨hk.1.1.1, ⟨hk.1.1.2, hk.1.2⟩⟩))⟩
    have n3_ : Aside0 (Kd.S k60 60 q5 w.heap.size (fun k_ => some k_ ≠ (.slice g4 e2.length g5 : Value).ownBlock) (.slice o1 f5.length o4) f5) := ⟨by rw [hw_]; exact (by exact Kd.S_mono (S_on (g := b6) (Kd.S_types b7.out a7.out (by decide)) (fun _ hk => hk.2)) (fun _ hk => hk.1))⟩
    have n4_ : Aside0 (q5.heap[a5]? = some (.cells #[.slice g6 e8.length g7, .int .i64 f6, .int .i64 f7, .int .i64 f8, .int .i64 f9, .slice g8 e9.length g9, .int .i64 g0, .int .i64 g1, .int .i64 g2, .int .i64 g3, .int .i64 e4, .slice (some u3) a3.length h2, .slice e5 d6.length e6] 35 (0, 0))) := ⟨by rw [hw_]; exact kS⟩
    have n5_ : Aside0 (q5.heap[b8]? = some (.cells #[.slice none 0 0, .int .i64 0, .int .i64 0, .int .i64 0, .int .i64 0, .slice none 0 0, .int .i64 0, .int .i64 0, .int .i64 0, .int .i64 0, .int .i64 0, .slice none 0 0, .slice none 0 0] 35 (0, 0))) := ⟨by rw [hw_]; exact kS⟩
    have n6_ : Aside0 (q5.heap[b9]? = some (.cells #[.slice h0 e3.length h1, .int .i64 h8, .int .i64 h9, .int .i64 i1, .int .i64 i3, .slice g4 e2.length g5, .int .i64 i4, .int .i64 i5, .int .i64 i6, .int .i64 i7, .int .i64 i8, e0, .slice o1 f5.length o4] 35 (0, 0))) := ⟨by rw [hw_]; exact kS⟩
    have n7_ : Aside0 (q5.heap[b6]? = some (.cells #[.slice j6 ((rd_T31 a3 a6).f0).length j7, .int .i64 ((rd_T31 a3 a6).f1.f0), .int .i64 ((rd_T31 a3 a6).f1.f1), .int .i64 ((rd_T31 a3 a6).f1.f2), .int .i64 ((rd_T31 a3 a6).f1.f3), .slice j8 ((rd_T31 a3 a6).f2).length j9, .int .i64 ((rd_T31 a3 a6).f3), .int .i64 ((rd_T31 a3 a6).f4.f0), .int .i64 ((rd_T31 a3 a6).f4.f1), .int .i64 ((rd_T31 a3 a6).f4.f2), .int .i64 ((rd_T31 a3 a6).f4.f3)] 31 (0, 0))) := ⟨by rw [hw_]; exact (kQ a7)⟩
    have n8_ : Aside0 (Below w.heap.size w q5) := ⟨by rw [hw_]; exact bS⟩
    rw [← hw_]
    clear hw_ b1 b2 a8 b7 a2 d0 a9 a7 HB
    have b1 := n0_
    have b2 := n1_
    have a8 := n2_
    have b7 := n3_
    have a2 := n4_
    have d0 := n5_
    have a9 := n6_
    have a7 := n7_
    have HB := n8_
    clear n0_ n1_ n2_ n3_ n4_ n5_ n6_ n7_ n8_
    replace b1 := rD b1
    replace b2 := rD b2
    replace a8 := sD a8
    replace b7 := sD b7
    replace a2 := bD a2
    replace d0 := bD d0
    replace a9 := bD a9
    replace a7 := bD a7
    replace HB := hD HB
    refine start_ (n := 8) (S := fun w' => w'.cell? ⟨b9, 11, none⟩ = some (e0) ∧ w'.cell? ⟨b6, 0, none⟩ = some (.slice j6 ((rd_T31 a3 a6).f0).length j7) ∧ w'.cell? ⟨b6, 1, none⟩ = some (.int .i64 ((rd_T31 a3 a6).f1.f0)) ∧ w'.cell? ⟨b6, 2, none⟩ = some (.int .i64 ((rd_T31 a3 a6).f1.f1)) ∧ w'.cell? ⟨b6, 3, none⟩ = some (.int .i64 ((rd_T31 a3 a6).f1.f2)) ∧ w'.cell? ⟨b6, 4, none⟩ = some (.int .i64 ((rd_T31 a3 a6).f1.f3)) ∧ w'.cell? ⟨b6, 5, none⟩ = some (.slice j8 ((rd_T31 a3 a6).f2).length j9) ∧ w'.cell? ⟨b6, 6, none⟩ = some (.int .i64 ((rd_T31 a3 a6).f3)) ∧ w'.cell? ⟨b6, 7, none⟩ = some (.int .i64 ((rd_T31 a3 a6).f4.f0)) ∧ w'.cell? ⟨b6, 8, none⟩ = some (.int .i64 ((rd_T31 a3 a6).f4.f1)) ∧ w'.cell? ⟨b6, 9, none⟩ = some (.int .i64 ((rd_T31 a3 a6).f4.f2)) ∧ w'.cell? ⟨b6, 10, none⟩ = some (.int .i64 ((rd_T31 a3 a6).f4.f3))) (ds := [7]) (mB 8 0) (by kernel_rfl) rfl rfl ⟨(blk_cell a9.out 11).trans rfl, (blk_cell a7.out 0).trans rfl, (blk_cell a7.out 1).trans rfl, (blk_cell a7.out 2).trans rfl, (blk_cell a7.out 3).trans rfl, (blk_cell a7.out 4).trans rfl, (blk_cell a7.out 5).trans rfl, (blk_cell a7.out 6).trans rfl, (blk_cell a7.out 7).trans rfl, (blk_cell a7.out 8).trans rfl, (blk_cell a7.out 9).trans rfl, (blk_cell a7.out 10).trans rfl⟩ (fun hHeld => ?_); refine with_tabW impl_copyPage.tab5 impl_copyPage.bits5 (fun HT_ HW_ => ?_)
    generalize q5.drew = A0 at b1 b2 a8 b7 a2 d0 a9 a7 HB hHeld ⊢
    refine pU 0 (some 20) (mB 8 1) ?_
    refine tK 1 (some 21) (mB 8 3) ?_
    refine tK 2 (some 22) (mB 8 7) ?_
    refine one_ (i := 3) (N := some 23) (mB 8 15) rfl rfl (one_of HT_.out (by kernel_rfl)) (by decide) (fun K hK => ?_)
    refine goes_ Try.func31 (by kernel_rfl) rfl #[.agg #[.slice j6 ((rd_T31 a3 a6).f0).length j7, .int .i64 ((rd_T31 a3 a6).f1.f0), .int .i64 ((rd_T31 a3 a6).f1.f1), .int .i64 ((rd_T31 a3 a6).f1.f2), .int .i64 ((rd_T31 a3 a6).f1.f3), .slice j8 ((rd_T31 a3 a6).f2).length j9, .int .i64 ((rd_T31 a3 a6).f3), .int .i64 ((rd_T31 a3 a6).f4.f0), .int .i64 ((rd_T31 a3 a6).f4.f1), .int .i64 ((rd_T31 a3 a6).f4.f2), .int .i64 ((rd_T31 a3 a6).f4.f3)]] (by rfl) rfl rfl mA ?_
    with_reducible refine (impl_copyGraphics.calls _ _ ((rd_T31 a3 a6).f0) ((rd_T31 a3 a6).f1.f0) ((rd_T31 a3 a6).f1.f1) ((rd_T31 a3 a6).f1.f2) ((rd_T31 a3 a6).f1.f3) _ _ ((rd_T31 a3 a6).f2) ((rd_T31 a3 a6).f3) ((rd_T31 a3 a6).f4.f0) ((rd_T31 a3 a6).f4.f1) ((rd_T31 a3 a6).f4.f2) ((rd_T31 a3 a6).f4.f3) m2 o5 o6 o7 o8 m3 o9 q0 q2 q3 q4 _ ?side1 ?side2 ?side3 ?side4 y0.out).mono ?_
    (case side1 => exact cS (Kd.C_below q8.out HB.out))
    (case side2 => exact q9.out)
    (case side3 => exact cS (Kd.C_below r0.out HB.out))
    (case side4 => exact s0.out)
    rintro e A1 ⟨y2, y3, rfl, i9, n2, hb⟩
    refine ⟨_, rfl, ?_⟩
    have m0 := aM (Kd.R_lower (Kd.R_new' i9 (Kd.R_lt (rS b1))) (below_size bS))
    have m1 := aM (Kd.R_lower (Kd.R_new' n2 (Kd.R_lt (rS b2))) (below_size bS))
    replace b1 := aM (Kd.R_elder' (rS b1) (Kd.R_base i9) hb)
    replace b2 := aM (Kd.R_elder' (rS b2) (Kd.R_base n2) hb)
    replace a8 := aM (Kd.S_mono (Kd.S_told (Kd.S_told (Kd.S_old (sS a8) hb) (Kd.R_base i9)) (Kd.R_base n2)) (fun _ h_ => h_.1))
    replace b7 := aM (Kd.S_elder' (sS b7) (Kd.R_base n2) hb)
    replace a2 := kB_ a5 hb
    replace d0 := kB_ b8 hb
    replace a9 := kB_ b9 hb
    replace a7 := kB_ b6 hb
    replace HB := hB hb
    (try clear hb)
    (try clear t7)
    (try clear hk)
    (try clear hi)
    (try clear i9)
    (try clear n2)
    obtain ⟨u4, u5, u6⟩ := Kd.R_slice m0.out
    (first | subst u6 | obtain ⟨rfl, rfl⟩ := slE u6)
    obtain ⟨u7, u9, v0⟩ := Kd.R_slice m1.out
    (first | subst v0 | obtain ⟨rfl, rfl⟩ := slE v0)
    refine hK.out _ _ ⟨(blk_cell a9.out 11).trans rfl, (blk_cell a7.out 0).trans rfl, (blk_cell a7.out 1).trans rfl, (blk_cell a7.out 2).trans rfl, (blk_cell a7.out 3).trans rfl, (blk_cell a7.out 4).trans rfl, (blk_cell a7.out 5).trans rfl, (blk_cell a7.out 6).trans rfl, (blk_cell a7.out 7).trans rfl, (blk_cell a7.out 8).trans rfl, (blk_cell a7.out 9).trans rfl, (blk_cell a7.out 10).trans rfl⟩ (fun hHeld => ?_)
    clear hK K
    refine norm_ (a' := ?_) ?_ ?_
    rotate_left
    ·show Act.put _ (some 23) _ = _
     simp only [Act.put, List.setIfInBounds_toArray, List.set_cons_zero, List.set_cons_succ, i64_w, i32_w]
     rfl
    refine one_ (i := 4) (N := some 24) (mB 8 31) rfl rfl (one_of HT_.out (by kernel_rfl)) (by decide) (fun K hK => ?_)
    refine value_ (w1 := ?_) (v := ?_) (by rfl) rfl ?_ ?_
    rotate_left 2
    ·go_simp
     constructor
     ·rfl
     ·rfl
    refine hK.out _ _ ⟨(blk_cell (blk_alloc a9.out _) 11).trans rfl, (blk_cell (blk_alloc a7.out _) 0).trans rfl, (blk_cell (blk_alloc a7.out _) 1).trans rfl, (blk_cell (blk_alloc a7.out _) 2).trans rfl, (blk_cell (blk_alloc a7.out _) 3).trans rfl, (blk_cell (blk_alloc a7.out _) 4).trans rfl, (blk_cell (blk_alloc a7.out _) 5).trans rfl, (blk_cell (blk_alloc a7.out _) 6).trans rfl, (blk_cell (blk_alloc a7.out _) 7).trans rfl, (blk_cell (blk_alloc a7.out _) 8).trans rfl, (blk_cell (blk_alloc a7.out _) 9).trans rfl, (blk_cell (blk_alloc a7.out _) 10).trans rfl⟩ (fun hHeld => ?_)
    clear hK K
    refine norm_ (a' := ?_) ?_ ?_
    rotate_left
    ·show Act.put _ (some 24) _ = _
     simp only [Act.put, List.setIfInBounds_toArray, List.set_cons_zero, List.set_cons_succ, i64_w, i32_w]
     rfl
    refine one_ (i := 5) (N := some 25) (mB 8 63) rfl rfl (one_of HT_.out (by kernel_rfl)) (by decide) (fun K hK => ?_)
    refine Kd.S_append_step k31 (w0 := w) w.heap.size (by rfl) (.tmp 21) (.tmp 24) 32 31 (.agg #[(.slice none 0 0), (.int .i64 0), (.int .i64 0), (.int .i64 0), (.int .i64 0), (.slice none 0 0), (.int .i64 0), (.int .i64 0), (.int .i64 0), (.int .i64 0), (.int .i64 0)]) 120 rfl Try.underlying32 info31 rfl (by decide) (by omega) e0 e1 (⟨m2, (⟨o5, o6, o7, o8⟩ : S26), m3, o9, (⟨q0, q2, q3, q4⟩ : S29)⟩ : S31) [.slice u4 m2.length u5, .int .i64 o5, .int .i64 o6, .int .i64 o7, .int .i64 o8, .slice u7 m3.length u9, .int .i64 o9, .int .i64 q0, .int .i64 q2, .int .i64 q3, .int .i64 q4] (fun k_ => some k_ ≠ (.slice h0 e3.length h1 : Value).ownBlock ∧ some k_ ≠ (.slice g4 e2.length g5 : Value).ownBlock ∧ k_ ≠ b6) (fun k_ => some k_ = (.slice u4 m2.length u5 : Value).ownBlock ∨ some k_ = (.slice u7 m3.length u9 : Value).ownBlock) rfl rfl ?aP (fun k_ hk_ => hk_.elim (fun h_ => ((Kd.R_mono (ok' := fun k_ => ((fun k_ => some k_ ≠ (.slice h0 e3.length h1 : Value).ownBlock ∧ some k_ ≠ (.slice g4 e2.length g5 : Value).ownBlock ∧ k_ ≠ b6)) k_ ∧ some k_ ≠ (e0 : Value).ownBlock) (Kd.R_types (Kd.R_apart' (Kd.R_apart' (m0.out) (Kd.R_typed b2.out) (by decide)) (Kd.S_typed a8.out) (by decide)) a7.out (by decide)) (fun k_ hk => ⟨⟨hk.1.1.1.2, ⟨hk.1.1.2, hk.2⟩⟩, hk.1.2⟩))).1 k_ h_.symm) (fun h_ => ((Kd.R_mono (ok' := fun k_ => ((fun k_ => some k_ ≠ (.slice h0 e3.length h1 : Value).ownBlock ∧ some k_ ≠ (.slice g4 e2.length g5 : Value).ownBlock ∧ k_ ≠ b6)) k_ ∧ some k_ ≠ (e0 : Value).ownBlock) (Kd.R_types (Kd.R_apart' (Kd.R_apart' (m1.out) (Kd.R_typed b1.out) (by decide)) (Kd.S_typed a8.out) (by decide)) a7.out (by decide)) (fun k_ hk => ⟨⟨hk.1.1.2, ⟨hk.1.1.1.2, hk.2⟩⟩, hk.1.2⟩))).1 k_ h_.symm)) ?aF ?aO ?aB ?aS ?aL ?_
    (case aP => exact k31_mkM _ _ _ (⟨m2, (⟨o5, o6, o7, o8⟩ : S26), m3, o9, (⟨q0, q2, q3, q4⟩ : S29)⟩ : S31) (Kd.R_mono (Kd.R_tight rfl (Kd.R_mono (ok' := fun k_ => ((fun k_ => some k_ ≠ (.slice h0 e3.length h1 : Value).ownBlock ∧ some k_ ≠ (.slice g4 e2.length g5 : Value).ownBlock ∧ k_ ≠ b6)) k_ ∧ some k_ ≠ (e0 : Value).ownBlock) (Kd.R_types (Kd.R_apart' (Kd.R_apart' (m0.out) (Kd.R_typed b2.out) (by decide)) (Kd.S_typed a8.out) (by decide)) a7.out (by decide)) (fun k_ hk => ⟨⟨hk.1.1.1.2, ⟨hk.1.1.2, hk.2⟩⟩, hk.1.2⟩))) (fun _ h_ => Or.inl h_)) (Kd.R_mono (Kd.R_tight rfl (Kd.R_mono (ok' := fun k_ => ((fun k_ => some k_ ≠ (.slice h0 e3.length h1 : Value).ownBlock ∧ some k_ ≠ (.slice g4 e2.length g5 : Value).ownBlock ∧ k_ ≠ b6)) k_ ∧ some k_ ≠ (e0 : Value).ownBlock) (Kd.R_types (Kd.R_apart' (Kd.R_apart' (m1.out) (Kd.R_typed b1.out) (by decide)) (Kd.S_typed a8.out) (by decide)) a7.out (by decide)) (fun k_ hk => ⟨⟨hk.1.1.2, ⟨hk.1.1.1.2, hk.2⟩⟩, hk.1.2⟩))) (fun _ h_ => Or.inr (h_))))
    (case aB => exact bS)
    (case aF => exact (fun k_ hk => ⟨Kd.fresh' (Kd.R_lt (rS b1)) k_ hk, Kd.fresh' (Kd.R_lt (rS b2)) k_ hk, Kd.freshB (g := b6) kS k_ hk⟩))
    (case aO => exact (by exact sT (Kd.S_mono a8.out (fun k_ hk => ⟨⟨hk.1.1.1, ⟨hk.1.1.2.1, hk.1.1.2.2⟩⟩, fun e_ => e_.elim (fun h_ => hk.1.2 h_) (fun h_ => hk.2 h_)⟩))))
    (case aS => exact (below_size bS))
    (case aL => have := LMc37.out; (try dsimp only at this); omega)
    intro y4 A4 ho hb hg hat
    rw [← Ny845.out] at ho
    have s9 := aM (ho)
    replace b1 := aM (Kd.R_over' (rS b1) (Kd.S_typed (sS a8)) (by decide) hg)
    replace b2 := aM (Kd.R_over' (rS b2) (Kd.S_typed (sS a8)) (by decide) hg)
    replace b7 := aM (Kd.S_over' (sS b7) (Kd.S_typed (sS a8)) (by decide) hg)
    replace a2 := aM (blk_grown (g := a5) kS hg (Kd.S_ne a8.out a2.out (by decide)))
    replace d0 := aM (blk_grown (g := b8) kS hg (Kd.S_ne a8.out d0.out (by decide)))
    replace a9 := aM (blk_grown (g := b9) kS hg (Kd.S_ne a8.out a9.out (by decide)))
    replace a7 := aM (blk_grown (g := b6) kS hg (Kd.S_away a8.out (fun _ hk => hk.1.1.2.2)))
    replace HB := aM (hb)
    clear a8 m0 m1
    clear ho hb hg hat
    obtain ⟨v8, v9, v1⟩ := Kd.S_slice s9.out
    (first | subst v1 | obtain ⟨rfl, rfl⟩ := slE v1)
    refine hK.out _ _ ⟨(blk_cell a9.out 11).trans rfl, (blk_cell a7.out 0).trans rfl, (blk_cell a7.out 1).trans rfl, (blk_cell a7.out 2).trans rfl, (blk_cell a7.out 3).trans rfl, (blk_cell a7.out 4).trans rfl, (blk_cell a7.out 5).trans rfl, (blk_cell a7.out 6).trans rfl, (blk_cell a7.out 7).trans rfl, (blk_cell a7.out 8).trans rfl, (blk_cell a7.out 9).trans rfl, (blk_cell a7.out 10).trans rfl⟩ (fun hHeld => ?_)
    clear hK K
    refine norm_ (a' := ?_) ?_ ?_
    rotate_left
    ·show Act.put _ (some 25) _ = _
     simp only [Act.put, List.setIfInBounds_toArray, List.set_cons_zero, List.set_cons_succ, i64_w, i32_w]
     rfl
    refine pU 6 (some 26) (mB 8 127) ?_
    refine last_ (i := 7) (N := none) (mB 8 255) rfl rfl (one_of HT_.out (by kernel_rfl)) (by decide) (fun K hK => ?_)
    have hs50 := cg11 a9
    have hfs50 := blk_frozen a9.out 11
    have hns50_0 := nP b0 d3
    have hns50_3 := nP h7 d1
    have hms50_1 := d4.out
    have hms50_3 := h6.out
    refine skip_ (w1 := ?_) (by rfl) rfl ?_ ?_
    rotate_left
    ·go_simp
     rfl
    refine hK.out _ _ ?_
    clear hK K
    refine done_ (done_of HT_.out (by kernel_rfl)) ?_
    try go_wp2
    go_roundg k1
    case measure => have := x4.out; omega
    case rel => exact ⟨(wrap64 (a6 + 1)), (t4), (.slice v8 t4.length v9), fS, H', ⟨by have := x4.out; omega⟩, ⟨rW [b9] b1 a9⟩, ⟨rW [b9] b2 a9⟩, ⟨sW [b9] s9 a9⟩, ⟨sW [b9] b7 a9⟩, ⟨kS⟩, ⟨kS⟩, ⟨kS⟩, ⟨bS⟩⟩
   ·simp only [Option.some.injEq, Prod.mk.injEq] at H
    obtain ⟨rfl, rfl, rfl, rfl, rfl, rfl, rfl, rfl, rfl, rfl, rfl, rfl, rfl⟩ := H
    have hnb51 := nP d1 b0
    have hnb52 := nP d4 d3
    have hz53 := cz13 a9
    have hnb54 := nP h5 h4
    have hz55 := cz13 d0
    obtain ⟨x0, x1, x2⟩ := Kd.S_slice a8.out
    subst x2
    go_wp2
    refine bodyPost_ret (results_cell_row rfl _ _ b8 35 #[.slice h0 e3.length h1, .int .i64 h8, .int .i64 h9, .int .i64 i1, .int .i64 i3, .slice g4 e2.length g5, .int .i64 i4, .int .i64 i5, .int .i64 i6, .int .i64 i7, .int .i64 i8, .slice x0 e1.length x1, .slice o1 f5.length o4] (0, 0) _ rfl kS Try.underlying35 rfl (by kernel_rfl)) rfl ?_
    exact ⟨_, _, _, _, eS, by exact Kd.R_mono (R_on (g := b8) (Kd.R_types b1.out d0.out (by decide)) (fun _ hk => hk.2)) (fun _ hk => trivial), by exact Kd.R_mono (R_on (g := b8) (Kd.R_types b2.out d0.out (by decide)) (fun _ hk => hk.2)) (fun _ hk => trivial), by exact Kd.S_mono (S_on (g := b8) (Kd.S_types a8.out d0.out (by decide)) (fun _ hk => hk.2)) (fun _ hk => ⟨hk.1.1, hk.1.2⟩), by exact Kd.S_mono (S_on (g := b8) (Kd.S_types b7.out d0.out (by decide)) (fun _ hk => hk.2)) (fun _ hk => hk.1), bS⟩

end Go.Proofs.Ytjodcfjaedhpeaa.QFnPages
