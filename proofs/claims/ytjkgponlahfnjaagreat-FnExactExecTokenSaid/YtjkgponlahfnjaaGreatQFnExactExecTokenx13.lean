/- Walks of functions of the program, made out of the translation by a program of this session: each answers what its plain function tells, for every input at which that is told. -/
import Derived.Test.YtjkgponlahfnjaaGreatQFnExactExecTokenx0
import Derived.Test.YtjkgponlahfnjaaGreatQFnExactExecTokenx10
import Derived.Test.YtjkgponlahfnjaaGreatQFnExactExecTokenx12
namespace Go.Proofs.YtjkgponlahfnjaaGreat.QFnExactExecToken
open Go.RowKit Go.Proofs.YtjkgponlahfnjaaGreatW.PrintWords Go.Proofs.YtjkgponlahfnjaaGreatW.PrintLast Go.Proofs.YtjkgponlahfnjaaGreatW.PrintMore
attribute [local go_sem] max2_int min2_int max_two min_two max_three min_three max_four min_four   -- for this text's walks alone
set_option linter.unusedVariables false
set_option linter.unusedSimpArgs false
set_option maxHeartbeats 8000000
set_option maxRecDepth 100000
/-! ### impl_TokenOk: function 37 -/
def impl_TokenOk.f (k : Nat) (a2 : ByteArray) (a3 : Int) : Option (Bool) := if a2.toList = ([] : List UInt8) then ((impl_within.f a3 (-999) 999).bind fun a5 => (some a5)) else ((impl_IsName.f k a2).bind fun a6 => (if a6 = true then (some (a3 == 0)) else (some false)))
theorem impl_TokenOk.calls (k : Nat) (a2 : ByteArray) (a5 : Int) (r : Bool) (w : World) (h : impl_TokenOk.f k a2 a5 = some r) :
  Calls Tryz.prog 37 #[.agg #[.string a2, .int .i64 a5]] w fun e w' => e = .returned (.bool r) ∧ Below w.heap.size w w' := by
 have hu50 := Tryz.underlying50
 have HB := aM (Below.refl w.heap.size w)
 have H := h
 clear h
 unfold impl_TokenOk.f at H
 by_cases c2 : a2.toList = ([] : List UInt8)
 ·rw [if_pos c2] at H
  obtain ⟨a7, a8⟩ := eqT c2
  clear c2
  replace H := bN H
  obtain ⟨a9, A3, H⟩ := H
  obtain rfl := Option.some.inj H
  go_enter Tryz.func37, Tryz.ntmps37
  go_wp2_with (first | ((with_reducible refine gD 1 ?_); refine bxE #[.string a2, .int .i64 a5] 50 ?_; intro a6 hg w4 a3 hb; have GE699 := gE hg; replace HB := hB hb; clear hb hg; have hz5 := cz2 a3) | ((with_reducible refine gC 83 ?_); refine cM (some 8) Tryz.func83 (impl_within.calls a5 (-999) 999 a9 _ A3.out) ?_; rintro e w' ⟨rfl, ⟨nd, rfl⟩⟩; refine ⟨_, rfl, ?_⟩))
  go_ret
  exact ⟨eS, bS⟩
 ·rw [if_neg c2] at H
  obtain ⟨a7, a8⟩ := eqF c2
  replace H := bN H
  obtain ⟨b0, A6, H⟩ := H
  by_cases c7 : b0 = true
  ·subst c7
   rw [if_pos rfl] at H
   obtain rfl := Option.some.inj H
   go_enter Tryz.func37, Tryz.ntmps37
   go_wp2_with (first | ((with_reducible refine gD 1 ?_); refine bxE #[.string a2, .int .i64 a5] 50 ?_; intro a6 hg w8 a3 hb; have GE699 := gE hg; replace HB := hB hb; clear hb hg; have hz9 := cz2 a3) | ((with_reducible refine gC 84 ?_); refine cM (some 11) Tryz.func84 (impl_IsName.calls k a2 _ _ A6.out) ?_; rintro e w' ⟨rfl, ⟨nd, rfl⟩⟩; refine ⟨_, rfl, ?_⟩))
   go_ret
   exact ⟨eS, bS⟩
  ·obtain rfl := Bool.eq_false_iff.mpr c7
   rw [if_neg nF] at H
   obtain rfl := Option.some.inj H
   go_enter Tryz.func37, Tryz.ntmps37
   go_wp2_with (first | ((with_reducible refine gD 1 ?_); refine bxE #[.string a2, .int .i64 a5] 50 ?_; intro a6 hg b1 a3 hb; have GE699 := gE hg; replace HB := hB hb; clear hb hg; have hz11 := cz2 a3) | ((with_reducible refine gC 84 ?_); refine cM (some 11) Tryz.func84 (impl_IsName.calls k a2 _ _ A6.out) ?_; rintro e w' ⟨rfl, ⟨nd, rfl⟩⟩; refine ⟨_, rfl, ?_⟩))
   go_ret
   exact ⟨eS, bS⟩
def slices_Clone_int_int.f (l0 : List Int) : Option (List Int) := (some (([] : List Int) : List Int)).bind fun a2 => (if a2.length + l0.length < 17592186044416 then (some (a2 ++ l0)) else (none))
theorem slices_Clone_int_int.calls (A0 : Option Addr) (c0 : Nat) (l0 : List Int) (r : List Int) (w : World) (hr0 : Kd.C (Kd.int .i64) w A0 l0.length l0) (a9 : l0.length ≤ c0) (h : slices_Clone_int_int.f l0 = some r) :
  Calls Tryz.prog 87 #[.slice A0 l0.length c0] w fun e w' => ∃ v0_ : Value, e = .returned (v0_) ∧ Kd.R (Kd.int .i64) 3 w' w.heap.size (fun _ => True) v0_ r ∧ Below w.heap.size w w' := by
 obtain _ | A0 := A0
 ·have hl0 : l0 = [] := by
   rcases Nat.eq_zero_or_pos l0.length with h0 | h0
   ·exact List.eq_nil_of_length_eq_zero h0
   ·obtain ⟨ad, e, _⟩ := hr0.2.2 h0
    cases e
  subst hl0
  have hr_ : r = [] := by
   have h_ := h
   simp [slices_Clone_int_int.f] at h_
   first | exact h_ | exact h_.symm
  subst hr_
  have he_ : ∀ w : World, (binOp .eql 22 (.slice none 0 c0) (.slice none 0 0)).run Tryz.prog w = .ok (.bool true) w := fun _ => rfl
  go_enter Tryz.func87, Tryz.ntmps87
  go_wp2
  go_ret
  exact ⟨_, rfl, Kd.R_nil _ _ _ _ _, Below.refl _ _⟩
 have he_ : ∀ w : World, (binOp .eql 22 (.slice (some A0) l0.length c0) (.slice none 0 0)).run Tryz.prog w = .ok (.bool false) w := fun _ => rfl
 have b0 := aM hr0
 have b2 := aM a9
 clear hr0 a9
 have HB := aM (Below.refl w.heap.size w)
 have H := h
 clear h
 unfold slices_Clone_int_int.f at H
 obtain ⟨a2, hy_⟩ : ∃ y_ : List Int, y_ = (([] : List Int)) := ⟨_, rfl⟩
 replace H : (if a2.length + l0.length < 17592186044416 then (some (a2 ++ l0)) else (none)) = some r := yS
 have Ny702 := aM hy_
 clear hy_
 by_cases c2 : a2.length + l0.length < 17592186044416
 ·rw [if_pos c2] at H
  have LMc2 := aM c2
  clear c2
  obtain ⟨a7, hy_⟩ : ∃ y_ : List Int, y_ = (a2 ++ l0) := ⟨_, rfl⟩
  replace H : (some a7) = some r := yS
  have Ny705 := aM hy_
  clear hy_
  obtain rfl := Option.some.inj H
  go_enter Tryz.func87, Tryz.ntmps87
  go_wp2_with (first | ((with_reducible refine gate_dst (N := 5) rfl ?_); refine Kd.R_lit (Kd.int .i64) _ 3 ?hg (N := 5) ?hd (xs := ([] : List Int)) (inner := []) (ok := fun _ => True) (okp := fun _ => True) ?hr ?hp (fun _ hk => hk) trivial (Below.refl _ _) (Nat.le_refl _) (by simp) ?_; (case hd => rfl); (case hg => rfl); (case hr => first | (go_simp; done) | (go_simp; rfl)); (case hp => exact (Reps.none _ _)); intro a8 w3 a5 hb hg_ hnew_; clear hg_ hnew_; (first | rw [← Ny702.out] at a5 | (simp only [Int.reduceToNat] at a5; rw [← Ny702.out] at a5)); have a3 := aM (Kd.R_lower a5 (below_size bS)); replace HB := hB hb; clear hb a5) | ((with_reducible refine gate_builtin (b := .append) (xs := #[.tmp 5, .tmp 6]) rfl ?_); at_builtin; refine Kd.R_append_rows (Kd.int .i64) (w0 := w) w.heap.size rfl (.tmp 5) (.tmp 6) 22 3 (.int .i64 0) 8 rfl Tryz.underlying22 info3 rfl (by decide) (by omega) a8 a2 l0 _ _ _ (fun _ => True) (fun _ => False) rfl rfl ?aO ?aR (fun _ _ h => h) (fun _ h => h.elim) ?aF ?aB ?aS ?aL ?_; (case aR => exact cS (Kd.C_below b0.out HB.out)); (case aB => exact bS); (case aF => exact (fun _ _ => trivial)); (case aO => exact (rS a3)); (case aS => exact (below_size bS)); (case aL => have := LMc2.out; (try dsimp only at this); omega); intro b1 w5 ho hb hg hat; rw [← Ny705.out] at ho; have a6 := aM (ho); replace HB := aM (hb); clear a3; clear ho hb hg hat))
  go_ret
  exact ⟨_, eS, rS a6, bS⟩
 ·rw [if_neg c2] at H
  exact absurd H (by simp)
def impl_Point.f (l0 : List (S111)) : Option ((List (S111))) := (some (([] : List (S111)) : List (S111))).bind fun a2 => (if a2.length + l0.length < 8796093022208 then (some (a2 ++ l0)) else (none))
theorem impl_Point.calls (A0 : Option Addr) (c0 : Nat) (l0 : List (S111)) (r : List (S111)) (w : World) (hr0 : Kd.C k111 w A0 l0.length l0) (a9 : l0.length ≤ c0) (h : impl_Point.f l0 = some r) :
  Calls Tryz.prog 90 #[.slice A0 l0.length c0] w fun e w' => ∃ v0_ : Value, e = .returned (v0_) ∧ Kd.R k111 111 w' w.heap.size (fun _ => True) v0_ r ∧ Below w.heap.size w w' := by
 obtain _ | A0 := A0
 ·have hl0 : l0 = [] := by
   rcases Nat.eq_zero_or_pos l0.length with h0 | h0
   ·exact List.eq_nil_of_length_eq_zero h0
   ·obtain ⟨ad, e, _⟩ := hr0.2.2 h0
    cases e
  subst hl0
  have hr_ : r = [] := by
   have h_ := h
   simp [impl_Point.f] at h_
   first | exact h_ | exact h_.symm
  subst hr_
  have he_ : ∀ w : World, (binOp .eql 39 (.slice none 0 c0) (.slice none 0 0)).run Tryz.prog w = .ok (.bool true) w := fun _ => rfl
  go_enter Tryz.func90, Tryz.ntmps90
  go_wp2
  go_ret
  exact ⟨_, rfl, Kd.R_nil _ _ _ _ _, Below.refl _ _⟩
 have he_ : ∀ w : World, (binOp .eql 39 (.slice (some A0) l0.length c0) (.slice none 0 0)).run Tryz.prog w = .ok (.bool false) w := fun _ => rfl
 have b0 := aM hr0
 have b2 := aM a9
 clear hr0 a9
 have HB := aM (Below.refl w.heap.size w)
 have H := h
 clear h
 unfold impl_Point.f at H
 obtain ⟨a2, hy_⟩ : ∃ y_ : List (S111), y_ = (([] : List (S111))) := ⟨_, rfl⟩
 replace H : (if a2.length + l0.length < 8796093022208 then (some (a2 ++ l0)) else (none)) = some r := yS
 have Ny708 := aM hy_
 clear hy_
 by_cases c2 : a2.length + l0.length < 8796093022208
 ·rw [if_pos c2] at H
  have LMc2 := aM c2
  clear c2
  obtain ⟨a7, hy_⟩ : ∃ y_ : List (S111), y_ = (a2 ++ l0) := ⟨_, rfl⟩
  replace H : (some a7) = some r := yS
  have Ny711 := aM hy_
  clear hy_
  obtain rfl := Option.some.inj H
  go_enter Tryz.func90, Tryz.ntmps90
  go_wp2_with (first | ((with_reducible refine gate_dst (N := 5) rfl ?_); refine Kd.R_lit k111 _ 111 ?hg (N := 5) ?hd (xs := ([] : List (S111))) (inner := []) (ok := fun _ => True) (okp := fun _ => True) ?hr ?hp (fun _ hk => hk) trivial (Below.refl _ _) (Nat.le_refl _) (by simp) ?_; (case hd => rfl); (case hg => rfl); (case hr => first | (go_simp; done) | (go_simp; rfl)); (case hp => exact (Reps.none _ _)); intro a8 w3 a5 hb hg_ hnew_; clear hg_ hnew_; (first | rw [← Ny708.out] at a5 | (simp only [Int.reduceToNat] at a5; rw [← Ny708.out] at a5)); have a3 := aM (Kd.R_lower a5 (below_size bS)); replace HB := hB hb; clear hb a5) | ((with_reducible refine gate_builtin (b := .append) (xs := #[.tmp 5, .tmp 6]) rfl ?_); at_builtin; refine Kd.R_append_rows k111 (w0 := w) w.heap.size rfl (.tmp 5) (.tmp 6) 39 111 (.agg #[(.int .i64 0), (.int .i64 0)]) 16 rfl Tryz.underlying39 info111 rfl (by decide) (by omega) a8 a2 l0 _ _ _ (fun _ => True) (fun _ => False) rfl rfl ?aO ?aR (fun _ _ h => h) (fun _ h => h.elim) ?aF ?aB ?aS ?aL ?_; (case aR => exact cS (Kd.C_below b0.out HB.out)); (case aB => exact bS); (case aF => exact (fun _ _ => trivial)); (case aO => exact (rS a3)); (case aS => exact (below_size bS)); (case aL => have := LMc2.out; (try dsimp only at this); omega); intro b1 w5 ho hb hg hat; rw [← Ny711.out] at ho; have a6 := aM (ho); replace HB := aM (hb); clear a3; clear ho hb hg hat))
  go_ret
  exact ⟨_, eS, rS a6, bS⟩
 ·rw [if_neg c2] at H
  exact absurd H (by simp)
def impl_copyGraphics.f (a3 : List Int) (a5 : Int) (a6 : Int) (a7 : Int) (a8 : Int) (a9 : List (S111)) (b0 : Int) (b1 : Int) (b2 : Int) (b6 : Int) (a2 : Int) : Option (List Int × Int × Int × Int × Int × (List (S111)) × Int × Int × Int × Int × Int) := (slices_Clone_int_int.f a3).bind fun b7 => ((impl_Point.f a9).bind fun b8 => (some (b7, a5, a6, a7, a8, b8, b0, b1, b2, b6, a2)))
def impl_copyGraphics.T1 : Bool × List (List Nat × List Nat) := (true, [([], []), ([0], [0]), ([1], [1]), ([], []), ([3], [3]), ([4, 2], [4]), ([0, 1, 2, 3, 4], []), ([6, 2, 5, 0, 1, 2, 3, 4], [2, 6]), ([0, 1, 2, 3, 4, 5, 6, 7], []), ([8, 5, 7, 0, 1, 2, 3, 4, 5, 6, 7], [5, 8])])
def impl_copyGraphics.B1 : List Nat := [0, 1, 3, 0, 8, 31, 31, 127, 255, 511]
theorem impl_copyGraphics.tab1 : rtab .any (opsOf Tryz.f85 1) = impl_copyGraphics.T1 := by kernel_rfl
theorem impl_copyGraphics.bits1 : waitsOk impl_copyGraphics.T1.2 impl_copyGraphics.B1 = true := by kernel_rfl
theorem impl_copyGraphics.calls (e2 : Option Addr) (e3 : Nat) (b6 : List Int) (a8 : Int) (b0 : Int) (b1 : Int) (b2 : Int) (e4 : Option Addr) (e5 : Nat) (b7 : List (S111)) (b9 : Int) (d3 : Int) (d6 : Int) (e6 : Int) (d4 : Int) (r1 : List Int) (r2 : Int) (r3 : Int) (r4 : Int) (r5 : Int) (r6 : List (S111)) (r7 : Int) (r8 : Int) (r9 : Int) (g0 : Int) (g1 : Int) (w : World) (e7 : Kd.C (Kd.int .i64) w e2 b6.length b6) (e8 : b6.length ≤ e3) (e9 : Kd.C k111 w e4 b7.length b7) (f0 : b7.length ≤ e5) (h : impl_copyGraphics.f b6 a8 b0 b1 b2 b7 b9 d3 d6 e6 d4 = some (r1, r2, r3, r4, r5, r6, r7, r8, r9, g0, g1)) :
  Calls Tryz.prog 85 #[.agg #[.slice e2 b6.length e3, .int .i64 a8, .int .i64 b0, .int .i64 b1, .int .i64 b2, .slice e4 b7.length e5, .int .i64 b9, .int .i64 d3, .int .i64 d6, .int .i64 e6, .int .i64 d4]] w fun e w' => ∃ v0_ v5_ : Value, e = .returned (.agg #[v0_, .int .i64 r2, .int .i64 r3, .int .i64 r4, .int .i64 r5, v5_, .int .i64 r7, .int .i64 r8, .int .i64 r9, .int .i64 g0, .int .i64 g1]) ∧ Kd.R (Kd.int .i64) 3 w' w.heap.size (fun _ => True) v0_ r1 ∧ Kd.R k111 111 w' w.heap.size (fun _ => True) v5_ r6 ∧ Below w.heap.size w w' := by
 have hu42 := Tryz.underlying42
 have f4 := aM e7
 have f5 := aM e8
 clear e7 e8
 have f6 := aM e9
 have f7 := aM f0
 clear e9 f0
 have HB := aM (Below.refl w.heap.size w)
 have H := h
 clear h
 unfold impl_copyGraphics.f at H
 replace H := bN H
 obtain ⟨a6, A2, H⟩ := H
 replace H := bN H
 obtain ⟨b8, A3, H⟩ := H
 simp only [Option.some.injEq, Prod.mk.injEq] at H
 obtain ⟨rfl, rfl, rfl, rfl, rfl, rfl, rfl, rfl, rfl, rfl, rfl⟩ := H
 go_enter Tryz.func85, Tryz.ntmps85
 try go_wp2_with (first | ((with_reducible refine gD 1 ?_); refine bxE #[.slice e2 b6.length e3, .int .i64 a8, .int .i64 b0, .int .i64 b1, .int .i64 b2, .slice e4 b7.length e5, .int .i64 b9, .int .i64 d3, .int .i64 d6, .int .i64 e6, .int .i64 d4] 42 ?_; intro a5 hg w4 a2 hb; have GE714 := gE hg; replace HB := hB hb; clear hb hg) | ((with_reducible refine gD 2 ?_); refine bxE #[.slice none 0 0, .int .i64 0, .int .i64 0, .int .i64 0, .int .i64 0, .slice none 0 0, .int .i64 0, .int .i64 0, .int .i64 0, .int .i64 0, .int .i64 0] 42 ?_; intro d0 hg w5 a7 hb; have GE715 := gE hg; have a9 := nL_ a5 hg; have a3 := nG_ a5 hg; replace a2 := kB_ a5 hb; replace HB := hB hb; clear hb hg))
 replace a2 := bD a2
 replace a7 := bD a7
 replace HB := hD HB
 refine start_ (n := 10) (S := fun w' => w'.cell? ⟨a5, 0, none⟩ = some (.slice e2 b6.length e3) ∧ w'.cell? ⟨a5, 5, none⟩ = some (.slice e4 b7.length e5)) (ds := [7, 9]) (mB 10 0) (by kernel_rfl) rfl rfl ⟨(blk_cell a2.out 0).trans rfl, (blk_cell a2.out 5).trans rfl⟩ (fun hHeld => ?_); refine with_tabW impl_copyGraphics.tab1 impl_copyGraphics.bits1 (fun HT_ HW_ => ?_)
 generalize w5.drew = w6 at a2 a7 HB hHeld ⊢
 refine pU 0 (some 3) (mB 10 1) ?_
 refine pU 3 (some 6) (mB 10 9) ?_
 refine tK 1 (some 4) (mB 10 11) ?_
 refine tK 4 (some 7) (mB 10 27) ?_
 refine one_ (i := 2) (N := some 5) (mB 10 31) rfl rfl (one_of HT_.out (by kernel_rfl)) (by decide) (fun K hK => ?_)
 refine goes_ Tryz.func87 (by kernel_rfl) rfl #[.slice e2 b6.length e3] (by rfl) rfl rfl mA ?_
 with_reducible refine (slices_Clone_int_int.calls _ _ b6 a6 _ ?side1 ?side2 A2.out).mono ?_
 (case side1 => exact cS (Kd.C_below f4.out HB.out))
 (case side2 => exact f5.out)
 rintro e w7 ⟨g3, rfl, f8, hb⟩
 refine ⟨_, rfl, ?_⟩
 have d5 := aM (Kd.R_lower f8 (below_size bS))
 replace a2 := kB_ a5 hb
 replace a7 := kB_ d0 hb
 replace HB := hB hb
 (try clear hb)
 (try clear g4)
 (try clear hk)
 (try clear hi)
 (try clear f8)
 refine hK.out _ _ ⟨(blk_cell a2.out 0).trans rfl, (blk_cell a2.out 5).trans rfl⟩ (fun hHeld => ?_)
 clear hK K
 refine norm_ (a' := ?_) ?_ ?_
 rotate_left
 ·show Act.put _ (some 5) _ = _
  simp only [Act.put, List.setIfInBounds_toArray, List.set_cons_zero, List.set_cons_succ, i64_w, i32_w]
  rfl
 refine pU 6 (some 9) (mB 10 95) ?_
 refine one_ (i := 5) (N := some 8) (mB 10 127) rfl rfl (one_of HT_.out (by kernel_rfl)) (by decide) (fun K hK => ?_)
 refine goes_ Tryz.func90 (by kernel_rfl) rfl #[.slice e4 b7.length e5] (by rfl) rfl rfl mA ?_
 with_reducible refine (impl_Point.calls _ _ b7 b8 _ ?side1 ?side2 A3.out).mono ?_
 (case side1 => exact cS (Kd.C_below f6.out HB.out))
 (case side2 => exact f7.out)
 rintro e w8 ⟨g5, rfl, f8, hb⟩
 refine ⟨_, rfl, ?_⟩
 have f3 := aM (Kd.R_lower f8 (below_size bS))
 replace d5 := rB d5 hb
 replace a2 := kB_ a5 hb
 replace a7 := kB_ d0 hb
 replace HB := hB hb
 (try clear hb)
 (try clear g4)
 (try clear hk)
 (try clear hi)
 (try clear f8)
 obtain ⟨e0, e1, g2⟩ := Kd.R_slice d5.out
 (first | subst g2 | obtain ⟨rfl, rfl⟩ := slE g2)
 obtain ⟨d1, d2, f9⟩ := Kd.R_slice f3.out
 (first | subst f9 | obtain ⟨rfl, rfl⟩ := slE f9)
 refine hK.out _ _ ⟨(blk_cell a2.out 0).trans rfl, (blk_cell a2.out 5).trans rfl⟩ (fun hHeld => ?_)
 clear hK K
 refine norm_ (a' := ?_) ?_ ?_
 rotate_left
 ·show Act.put _ (some 8) _ = _
  simp only [Act.put, List.setIfInBounds_toArray, List.set_cons_zero, List.set_cons_succ, i64_w, i32_w]
  rfl
 refine last_ (i := 7) (N := none) (mB 10 255) rfl rfl (one_of HT_.out (by kernel_rfl)) (by decide) (fun K hK => ?_)
 have hs10 := cg0 a2
 have hfs10 := blk_frozen a2.out 0
 have hns10_1 := nP a3 a9
 refine skip_ (w1 := ?_) (by rfl) rfl ?_ ?_
 rotate_left
 ·go_simp
  rfl
 refine hK.out _ _ ?_
 clear hK K
 refine pU 8 (some 10) (mB 10 511) ?_
 refine last_ (i := 9) (N := none) (mB 10 1023) rfl rfl (one_of HT_.out (by kernel_rfl)) (by decide) (fun K hK => ?_)
 have hs12 := cg5 a2
 have hfs12 := blk_frozen a2.out 5
 have hns12_1 := nP a3 a9
 refine skip_ (w1 := ?_) (by rfl) rfl ?_ ?_
 rotate_left
 ·go_simp
  rfl
 refine hK.out _ _ ?_
 clear hK K
 refine done_ (done_of HT_.out (by kernel_rfl)) ?_
 have hnb13 := nP a9 a3
 have hz14 := cz11 a2
 have hz15 := cz11 a7
 try go_wp2
 refine bodyPost_ret (results_cell_row rfl _ _ d0 42 #[.slice e0 a6.length e1, .int .i64 a8, .int .i64 b0, .int .i64 b1, .int .i64 b2, .slice d1 b8.length d2, .int .i64 b9, .int .i64 d3, .int .i64 d6, .int .i64 e6, .int .i64 d4] (0, 0) _ rfl (by (with_reducible repeat (first | refine blk_drewN ?_ _ | refine blk_drew ?_ | refine blk_alloc ?_ _)); refine blk_put (cs := #[.slice e0 a6.length e1, .int .i64 a8, .int .i64 b0, .int .i64 b1, .int .i64 b2, .slice d1 b8.length d2, .int .i64 b9, .int .i64 d3, .int .i64 d6, .int .i64 e6, .int .i64 0]) ?_ 10 _ rfl; (with_reducible repeat (first | refine blk_drewN ?_ _ | refine blk_drew ?_ | refine blk_alloc ?_ _)); refine blk_put (cs := #[.slice e0 a6.length e1, .int .i64 a8, .int .i64 b0, .int .i64 b1, .int .i64 b2, .slice d1 b8.length d2, .int .i64 b9, .int .i64 d3, .int .i64 d6, .int .i64 0, .int .i64 0]) ?_ 9 _ rfl; (with_reducible repeat (first | refine blk_drewN ?_ _ | refine blk_drew ?_ | refine blk_alloc ?_ _)); refine blk_put (cs := #[.slice e0 a6.length e1, .int .i64 a8, .int .i64 b0, .int .i64 b1, .int .i64 b2, .slice d1 b8.length d2, .int .i64 b9, .int .i64 d3, .int .i64 0, .int .i64 0, .int .i64 0]) ?_ 8 _ rfl; (with_reducible repeat (first | refine blk_drewN ?_ _ | refine blk_drew ?_ | refine blk_alloc ?_ _)); refine blk_put (cs := #[.slice e0 a6.length e1, .int .i64 a8, .int .i64 b0, .int .i64 b1, .int .i64 b2, .slice d1 b8.length d2, .int .i64 b9, .int .i64 0, .int .i64 0, .int .i64 0, .int .i64 0]) ?_ 7 _ rfl; (with_reducible repeat (first | refine blk_drewN ?_ _ | refine blk_drew ?_ | refine blk_alloc ?_ _)); refine blk_put (cs := #[.slice e0 a6.length e1, .int .i64 a8, .int .i64 b0, .int .i64 b1, .int .i64 b2, .slice d1 b8.length d2, .int .i64 0, .int .i64 0, .int .i64 0, .int .i64 0, .int .i64 0]) ?_ 6 _ rfl; (with_reducible repeat (first | refine blk_drewN ?_ _ | refine blk_drew ?_ | refine blk_alloc ?_ _)); refine blk_put (cs := #[.slice e0 a6.length e1, .int .i64 a8, .int .i64 b0, .int .i64 b1, .int .i64 b2, .slice none 0 0, .int .i64 0, .int .i64 0, .int .i64 0, .int .i64 0, .int .i64 0]) ?_ 5 _ rfl; (with_reducible repeat (first | refine blk_drewN ?_ _ | refine blk_drew ?_ | refine blk_alloc ?_ _)); refine blk_put (cs := #[.slice e0 a6.length e1, .int .i64 a8, .int .i64 b0, .int .i64 b1, .int .i64 0, .slice none 0 0, .int .i64 0, .int .i64 0, .int .i64 0, .int .i64 0, .int .i64 0]) ?_ 4 _ rfl; (with_reducible repeat (first | refine blk_drewN ?_ _ | refine blk_drew ?_ | refine blk_alloc ?_ _)); refine blk_put (cs := #[.slice e0 a6.length e1, .int .i64 a8, .int .i64 b0, .int .i64 0, .int .i64 0, .slice none 0 0, .int .i64 0, .int .i64 0, .int .i64 0, .int .i64 0, .int .i64 0]) ?_ 3 _ rfl; (with_reducible repeat (first | refine blk_drewN ?_ _ | refine blk_drew ?_ | refine blk_alloc ?_ _)); refine blk_put (cs := #[.slice e0 a6.length e1, .int .i64 a8, .int .i64 0, .int .i64 0, .int .i64 0, .slice none 0 0, .int .i64 0, .int .i64 0, .int .i64 0, .int .i64 0, .int .i64 0]) ?_ 2 _ rfl; (with_reducible repeat (first | refine blk_drewN ?_ _ | refine blk_drew ?_ | refine blk_alloc ?_ _)); refine blk_put (cs := #[.slice e0 a6.length e1, .int .i64 0, .int .i64 0, .int .i64 0, .int .i64 0, .slice none 0 0, .int .i64 0, .int .i64 0, .int .i64 0, .int .i64 0, .int .i64 0]) ?_ 1 _ rfl; (with_reducible repeat (first | refine blk_drewN ?_ _ | refine blk_drew ?_ | refine blk_alloc ?_ _)); refine blk_put (cs := #[.slice none 0 0, .int .i64 0, .int .i64 0, .int .i64 0, .int .i64 0, .slice none 0 0, .int .i64 0, .int .i64 0, .int .i64 0, .int .i64 0, .int .i64 0]) ?_ 0 _ rfl; (with_reducible repeat (first | refine blk_drewN ?_ _ | refine blk_drew ?_ | refine blk_alloc ?_ _)); refine blk_far ?_ a3.out _; (with_reducible repeat (first | refine blk_drewN ?_ _ | refine blk_drew ?_ | refine blk_alloc ?_ _)); refine blk_far ?_ a3.out _; (with_reducible repeat (first | refine blk_drewN ?_ _ | refine blk_drew ?_ | refine blk_alloc ?_ _)); exact a7.out) Tryz.underlying42 rfl (by kernel_rfl)) rfl ?_
 exact ⟨_, _, eS, by exact Kd.R_mono (R_on (g := d0) (Kd.R_far (p := ⟨a5, 5, none⟩) (Kd.R_far (p := ⟨a5, 0, none⟩) (Kd.R_types (Kd.R_types d5.out a2.out (by decide)) a7.out (by decide)) (fun _ hk => hk.1.2) (.slice e0 a6.length e1)) (fun _ hk => hk.1.2) (.slice d1 b8.length d2)) (fun _ hk => hk.2)) (fun _ hk => trivial), by exact Kd.R_mono (R_on (g := d0) (Kd.R_far (p := ⟨a5, 5, none⟩) (Kd.R_far (p := ⟨a5, 0, none⟩) (Kd.R_types (Kd.R_types f3.out a2.out (by decide)) a7.out (by decide)) (fun _ hk => hk.1.2) (.slice e0 a6.length e1)) (fun _ hk => hk.1.2) (.slice d1 b8.length d2)) (fun _ hk => hk.2)) (fun _ hk => trivial), bS⟩
def impl_copyObject.f (a2 : List (S111)) (a3 : Int) (a5 : Int) (a6 : Int) (a7 : Int) (a8 : Int) : Option ((List (S111)) × Int × Int × Int × Int × Int) := (impl_Point.f a2).bind fun a9 => (some (a9, a3, a5, a6, a7, a8))
theorem impl_copyObject.calls (d1 : Option Addr) (d2 : Nat) (a5 : List (S111)) (b0 : Int) (b1 : Int) (b2 : Int) (b6 : Int) (b7 : Int) (r1 : List (S111)) (r2 : Int) (r3 : Int) (r4 : Int) (r5 : Int) (r6 : Int) (w : World) (b8 : Kd.C k111 w d1 a5.length a5) (b9 : a5.length ≤ d2) (h : impl_copyObject.f a5 b0 b1 b2 b6 b7 = some (r1, r2, r3, r4, r5, r6)) :
  Calls Tryz.prog 118 #[.agg #[.slice d1 a5.length d2, .int .i64 b0, .int .i64 b1, .int .i64 b2, .int .i64 b6, .int .i64 b7]] w fun e w' => ∃ v0_ : Value, e = .returned (.agg #[v0_, .int .i64 r2, .int .i64 r3, .int .i64 r4, .int .i64 r5, .int .i64 r6]) ∧ Kd.R k111 111 w' w.heap.size (fun _ => True) v0_ r1 ∧ Below w.heap.size w w' := by
 have hu103 := Tryz.underlying103
 have d4 := aM b8
 have d5 := aM b9
 clear b8 b9
 have HB := aM (Below.refl w.heap.size w)
 have H := h
 clear h
 unfold impl_copyObject.f at H
 replace H := bN H
 obtain ⟨d3, A2, H⟩ := H
 obtain ⟨rfl, rfl, rfl, rfl, rfl, rfl⟩ := sI6 H
 go_enter Tryz.func118, Tryz.ntmps118
 go_wp2_with (first | ((with_reducible refine gD 1 ?_); refine bxE #[.slice d1 a5.length d2, .int .i64 b0, .int .i64 b1, .int .i64 b2, .int .i64 b6, .int .i64 b7] 103 ?_; intro a3 hg w3 a2 hb; have GE722 := gE hg; replace HB := hB hb; clear hb hg) | ((with_reducible refine gD 2 ?_); refine bxE #[.slice none 0 0, .int .i64 0, .int .i64 0, .int .i64 0, .int .i64 0, .int .i64 0] 103 ?_; intro a8 hg w4 a9 hb; have GE723 := gE hg; have a6 := nL_ a3 hg; have a7 := nG_ a3 hg; replace a2 := kB_ a3 hb; replace HB := hB hb; clear hb hg; have hnb5 := nP a6 a7; have d6 := cg0 a2; have e0 := cg1 a2; have e1 := cg2 a2; have e2 := cg3 a2; have e3 := cg4 a2; have e4 := cg5 a2; have e5 := blk_frozen a2.out 0) | ((with_reducible refine gC 90 ?_); refine cM (some 5) Tryz.func90 (impl_Point.calls _ _ a5 d3 _ (cC d4 HB) d5.out A2.out) ?_; rintro e w7 ⟨f8, rfl, f5, hb⟩; refine ⟨_, rfl, ?_⟩; have d0 := aM (Kd.R_lower f5 (below_size bS)); replace a2 := kB_ a3 hb; replace a9 := kB_ a8 hb; replace HB := hB hb; (try clear hb f5); obtain ⟨f6, f7, f9⟩ := Kd.R_slice d0.out; subst f9; have e6 := cg0 a2; have e7 := cg1 a2; have e8 := cg2 a2; have e9 := cg3 a2; have f0 := cg4 a2; have f3 := cg5 a2; have f4 := blk_frozen a2.out 0; have hz10 := cz6 a9))
 refine bodyPost_ret (results_cell_row rfl _ _ a8 103 #[.slice f6 d3.length f7, .int .i64 b0, .int .i64 b1, .int .i64 b2, .int .i64 b6, .int .i64 b7] (0, 0) _ rfl kS Tryz.underlying103 rfl (by kernel_rfl)) rfl ?_
 exact ⟨_, eS, by exact Kd.R_mono (R_on (g := a8) (Kd.R_far (p := ⟨a3, 0, none⟩) (Kd.R_types (Kd.R_types d0.out a2.out (by decide)) a9.out (by decide)) (fun _ hk => hk.1.2) (.slice f6 d3.length f7)) (fun _ hk => hk.2)) (fun _ hk => trivial), bS⟩
def impl_copyObjects.l0 : Nat → List (S103) → List (S103) → Int → Int → Option ((List (S103)))
 | 0, _, _, _, _ => none
 | k + 1, x3, x6, x7, x8 => if x8 < x7 then (if 0 ≤ x8 then (if x8 < (x6.length : Int) then ((impl_copyObject.f ((rd_T103 x6 x8).f0) ((rd_T103 x6 x8).f1) ((rd_T103 x6 x8).f2.f0) ((rd_T103 x6 x8).f2.f1) ((rd_T103 x6 x8).f2.f2) ((rd_T103 x6 x8).f2.f3)).bind fun a2 => (if x3.length < 2199023255552 then (impl_copyObjects.l0 k (x3 ++ [(⟨a2.1, a2.2.1, (⟨a2.2.2.1, a2.2.2.2.1, a2.2.2.2.2.1, a2.2.2.2.2.2⟩ : S40)⟩ : S103)]) x6 x7 (wrap64 (x8 + 1))) else (none))) else (none)) else (none)) else (some x3)
def impl_copyObjects.f (k : Nat) (l0 : List (S103)) : Option ((List (S103))) := impl_copyObjects.l0 k ([] : List (S103)) l0 (l0.length : Int) 0
theorem impl_copyObjects.calls (k : Nat) (A0 : Option Addr) (c0 : Nat) (l0 : List (S103)) (r : List (S103)) (w : World) (hr0 : Kd.C k103 w A0 l0.length l0) (f5 : l0.length ≤ c0) (h : impl_copyObjects.f k l0 = some r) :
  Calls Tryz.prog 86 #[.slice A0 l0.length c0] w fun e w' => ∃ v0_ : Value, e = .returned (v0_) ∧ Kd.S k103 103 w' w.heap.size (fun _ => True) v0_ r ∧ Below w.heap.size w w' := by
 have hu103 := Tryz.underlying103
 have f8 := aM hr0
 have g3 := aM f5
 clear hr0 f5
 have HB := aM (Below.refl w.heap.size w)
 have H := h
 clear h
 unfold impl_copyObjects.f at H
 have H' := aM H
 clear H
 go_enter Tryz.func86, Tryz.ntmps86
 go_wp2
 go_loopg [3, 8] k (fun kq v3 v8 w' => ∃ (b8 : List (S103)) (a2 : Int), v8 = .int .i64 a2 ∧ Aside0 (impl_copyObjects.l0 kq b8 l0 (l0.length : Int) a2 = some r) ∧ Aside0 (kq ≤ k) ∧ Aside0 (Kd.S k103 103 w' w.heap.size (fun _ => True) v3 b8) ∧ Aside0 (Below w.heap.size w w'))
 case atStart => exact ⟨(([] : List (S103))), (0), fS, H', ⟨Nat.le_refl _⟩, ⟨by first | exact Kd.S_nil _ _ _ _ _ | exact Kd.N_nil _ _ _ _ _ | exact Kd.V_nil _ _ _ _ _ | exact Kd.Q_nil _ _ _ _ _ | exact Kd.R_nil _ _ _ _ _⟩, ⟨bS⟩⟩
 case round =>
  clear H'
  obtain ⟨b8, a2, rfl, HA, f6, a5, HB⟩ := hrel
  cases gk with
  | zero => exact absurd HA.out (by simp [impl_copyObjects.l0])
  | succ k1 =>
   have H := HA.out
   clear HA
   simp only [impl_copyObjects.l0] at H
   rcases iD H with ⟨e7, H⟩ | ⟨e7, H⟩
   ·obtain ⟨f9, H⟩ := iT H
    obtain ⟨g0, H⟩ := iT H
    replace H := bN H
    obtain ⟨⟨b7, b9, d0, d1, d2, d3⟩, A5, H⟩ := H
    obtain ⟨LMc6, H⟩ := iL H
    obtain ⟨e3, hy_⟩ : ∃ y_ : List (S103), y_ = (b8 ++ [(⟨b7, b9, (⟨d0, d1, d2, d3⟩ : S40)⟩ : S103)]) := ⟨_, rfl⟩
    replace H : (impl_copyObjects.l0 k1 e3 l0 (l0.length : Int) (wrap64 (a2 + 1))) = some r := yS
    have Ny737 := aM hy_
    clear hy_
    have H' := aM H
    clear H
    have e1 : 0 ≤ (a2 : Int) := dA
    have e2 : a2 < (l0.length : Int) := dA
    obtain ⟨f7, d4, d5, e8, a7, a8, a9, b0, b1, b2, hl727_0, hi727_0⟩ := at_T103 f8.out a2 e1 e2
    cases e8
    replace a7 := cB HB a7
    replace a8 := cB HB a8
    replace a9 := cB HB a9
    replace b0 := cB HB b0
    replace b1 := cB HB b1
    replace b2 := cB HB b2
    have d6 := aM hi727_0
    have e0 := aM hl727_0
    clear hi727_0 hl727_0
    replace e1 := eq_true e1
    replace e2 := eq_true e2
    go_wp2_with (first | ((with_reducible refine gD 5 ?_); refine bxE #[.slice none 0 0, .int .i64 0, .int .i64 0, .int .i64 0, .int .i64 0, .int .i64 0] 103 ?_; intro a3 hg w7 a6 hb; have GE728 := gE hg; replace a5 := aM (Kd.S_below (Kd.S_elderB (sS a5) a3 (Nat.le_of_eq hg.symm)) hb); replace HB := hB hb; clear hb hg; have hz8 := cz6 a6) | ((with_reducible refine gC 118 ?_); refine cM (some 14) Tryz.func118 (impl_copyObject.calls _ _ ((rd_T103 l0 a2).f0) ((rd_T103 l0 a2).f1) ((rd_T103 l0 a2).f2.f0) ((rd_T103 l0 a2).f2.f1) ((rd_T103 l0 a2).f2.f2) ((rd_T103 l0 a2).f2.f3) b7 b9 d0 d1 d2 d3 _ (Kd.C_below d6.out bS) e0.out A5.out) ?_; rintro e w9 ⟨g1, rfl, e9, hb⟩; refine ⟨_, rfl, ?_⟩; have b6 := aM (Kd.R_lower e9 (below_size bS)); replace a5 := aM (Kd.S_elder' (by exact sT (Kd.S_mono (Kd.S_far (p := ⟨a3, 5, none⟩) (Kd.S_far (p := ⟨a3, 4, none⟩) (Kd.S_far (p := ⟨a3, 3, none⟩) (Kd.S_far (p := ⟨a3, 2, none⟩) (Kd.S_far (p := ⟨a3, 1, none⟩) (Kd.S_far (p := ⟨a3, 0, none⟩) (Kd.S_mono a5.out (fun k_ hk => (⟨hk, hk.2⟩ : _ ∧ k_ ≠ a3))) (fun _ hk => hk.2) (.slice d4 ((rd_T103 l0 a2).f0).length d5)) (fun _ hk => hk.2) (.int .i64 ((rd_T103 l0 a2).f1))) (fun _ hk => hk.2) (.int .i64 ((rd_T103 l0 a2).f2.f0))) (fun _ hk => hk.2) (.int .i64 ((rd_T103 l0 a2).f2.f1))) (fun _ hk => hk.2) (.int .i64 ((rd_T103 l0 a2).f2.f2))) (fun _ hk => hk.2) (.int .i64 ((rd_T103 l0 a2).f2.f3))) (fun _ h_ => h_.1))) (Kd.R_base e9) hb); replace a6 := kO a3 #[.slice d4 ((rd_T103 l0 a2).f0).length d5, .int .i64 ((rd_T103 l0 a2).f1), .int .i64 ((rd_T103 l0 a2).f2.f0), .int .i64 ((rd_T103 l0 a2).f2.f1), .int .i64 ((rd_T103 l0 a2).f2.f2), .int .i64 ((rd_T103 l0 a2).f2.f3)] 103 hb; replace HB := hB hb; (try clear hb hk e9); obtain ⟨e4, e5, f4⟩ := Kd.R_slice b6.out; subst f4) | ((with_reducible refine gate_builtin (b := .append) (xs := #[.tmp 12, .tmp 15]) rfl ?_); at_builtin; refine Kd.S_append k103 (w0 := w) w.heap.size rfl (.tmp 12) (.tmp 15) 44 103 (.agg #[(.slice none 0 0), (.int .i64 0), (.int .i64 0), (.int .i64 0), (.int .i64 0), (.int .i64 0)]) 64 rfl Tryz.underlying44 info103 rfl (by decide) (by omega) u3 b8 (⟨b7, b9, (⟨d0, d1, d2, d3⟩ : S40)⟩ : S103) [.slice e4 b7.length e5, .int .i64 b9, .int .i64 d0, .int .i64 d1, .int .i64 d2, .int .i64 d3] (fun k_ => k_ ≠ a3) (fun k_ => some k_ = (.slice e4 b7.length e5 : Value).ownBlock) rfl rfl ?aP (fun k_ hk_ => ((Kd.R_mono (ok' := fun k_ => ((fun k_ => k_ ≠ a3)) k_ ∧ some k_ ≠ (u3 : Value).ownBlock) (Kd.R_types (Kd.R_apart' (b6.out) (Kd.S_typed a5.out) (by decide)) a6.out (by decide)) (fun k_ hk => ⟨hk.2, hk.1.2⟩))).1 k_ hk_.symm) ?aF ?aO ?aB ?aS ?aL ?_; (case aP => exact k103_mkM _ _ _ (⟨b7, b9, (⟨d0, d1, d2, d3⟩ : S40)⟩ : S103) (Kd.R_mono (Kd.R_tight rfl (Kd.R_mono (ok' := fun k_ => ((fun k_ => k_ ≠ a3)) k_ ∧ some k_ ≠ (u3 : Value).ownBlock) (Kd.R_types (Kd.R_apart' (b6.out) (Kd.S_typed a5.out) (by decide)) a6.out (by decide)) (fun k_ hk => ⟨hk.2, hk.1.2⟩))) (fun _ h_ => h_))); (case aB => exact bS); (case aF => exact (fun k_ hk => Kd.freshB (g := a3) kS k_ hk)); (case aO => exact (by exact sT (Kd.S_mono a5.out (fun k_ hk => ⟨hk.1.2, fun e_ => hk.2 e_⟩)))); (case aS => exact (below_size bS)); (case aL => have := LMc6.out; (try dsimp only at this); omega); intro g2 g4 ho hb hg hat; rw [← Ny737.out] at ho; have e6 := aM (ho); replace a6 := aM (blk_grown (g := a3) kS hg (Kd.S_away a5.out (fun _ hk => hk.1.2))); replace HB := aM (hb); clear a5 b6; clear ho hb hg hat))
    go_roundg k1
    case measure => have := f6.out; omega
    case rel => exact ⟨(e3), (wrap64 (a2 + 1)), fS, H', ⟨by have := f6.out; omega⟩, ⟨by exact sT (Kd.S_mono e6.out (fun _ hk => trivial))⟩, ⟨bS⟩⟩
   ·obtain rfl := Option.some.inj H
    go_wp2
    go_ret
    exact ⟨_, eS, sS a5, bS⟩
end Go.Proofs.YtjkgponlahfnjaaGreat.QFnExactExecToken
