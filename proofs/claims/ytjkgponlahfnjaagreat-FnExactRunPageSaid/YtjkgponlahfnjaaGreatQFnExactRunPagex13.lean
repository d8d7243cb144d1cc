/- Walks of functions of the program: each answers what its plain function tells, for every input at which that is told. -/
import Derived.Test.YtjkgponlahfnjaaGreatQFnExactRunPagex0
import Derived.Test.YtjkgponlahfnjaaGreatQFnExactRunPagex5
import Derived.Test.YtjkgponlahfnjaaGreatQFnExactRunPagex6
namespace Go.Proofs.YtjkgponlahfnjaaGreat.QFnExactRunPage
open Go.RowKit Go.Proofs.YtjkgponlahfnjaaGreatW.PrintWords Go.Proofs.YtjkgponlahfnjaaGreatW.PrintLast Go.Proofs.YtjkgponlahfnjaaGreatW.PrintMore
attribute [local go_sem] max2_int min2_int max_two min_two max_three min_three max_four min_four   -- for this text's walks alone
set_option linter.unusedVariables false
set_option linter.unusedSimpArgs false
set_option maxHeartbeats 8000000
set_option maxRecDepth 100000
/-! ### spec_l06End: function 122 -/
def spec_l06End.l0 : Nat → List (S50) → Int → Int → Option (Int)
 | 0, _, _, _ => none
 | k + 1, x0, x1, x5 => if x1 < (x0.length : Int) then (if 0 ≤ x1 then (if ((rd_T50 x0 x1).f0).toList = ([114, 101, 112, 101, 97, 116] : List UInt8) then (if (wrap64 (x5 + 1)) = 0 then (some x1) else (spec_l06End.l0 k x0 (wrap64 (x1 + 1)) (wrap64 (x5 + 1)))) else (if ((rd_T50 x0 x1).f0).toList = ([101, 110, 100] : List UInt8) then (if (wrap64 (x5 - 1)) = 0 then (some x1) else (spec_l06End.l0 k x0 (wrap64 (x1 + 1)) (wrap64 (x5 - 1)))) else (if x5 = 0 then (some x1) else (spec_l06End.l0 k x0 (wrap64 (x1 + 1)) x5)))) else (none)) else (some x1)
def spec_l06End.f (k : Nat) (l0 : List (S50)) (a1 : Int) : Option (Int) := spec_l06End.l0 k l0 a1 0
theorem spec_l06End.calls (k : Nat) (A0 : Option Addr) (c0 : Nat) (l0 : List (S50)) (a1 : Int) (r : Int) (w : World) (hr0 : Kd.C k50 w A0 l0.length l0) (e0 : l0.length ≤ c0) (h : spec_l06End.f k l0 a1 = some r) :
  Calls Tryz.prog 122 #[.slice A0 l0.length c0, .int .i64 a1] w fun e w' => e = .returned (.int .i64 r) ∧ Drawn0 w w' := by
 have b1 := aM hr0
 have e2 := aM e0
 clear hr0 e0
 have H := h
 clear h
 unfold spec_l06End.f at H
 have H' := aM H
 clear H
 go_enter Tryz.func122, Tryz.ntmps122
 go_wp2
 go_loopg [1, 5] k (fun kq v1 v5 w' => ∃ (a2 : Int) (a6 : Int), v1 = .int .i64 a2 ∧ v5 = .int .i64 a6 ∧ Aside0 (spec_l06End.l0 kq l0 a2 a6 = some r) ∧ Aside0 (kq ≤ k) ∧ Drawn0 w w')
 case atStart => exact ⟨(a1), (0), fS, fS, H', ⟨Nat.le_refl _⟩, dS⟩
 case round =>
  clear H'
  try clear c1
  try clear p2
  obtain ⟨a2, a6, rfl, rfl, HA, b2, ⟨m1, rfl⟩⟩ := hrel
  cases gk with
  | zero => exact absurd HA.out (by simp [spec_l06End.l0])
  | succ k1 =>
   have H := HA.out
   clear HA
   simp only [spec_l06End.l0] at H
   rcases iD H with ⟨b6, H⟩ | ⟨b6, H⟩
   ·obtain ⟨e1, H⟩ := iT H
    by_cases c5 : ((rd_T50 l0 a2).f0).toList = ([114, 101, 112, 101, 97, 116] : List UInt8)
    ·rw [if_pos c5] at H
     obtain ⟨b7, b8⟩ := eqT c5
     clear c5
     by_cases c6 : (wrap64 (a6 + 1)) = 0
     ·rw [if_pos c6] at H
      have b9 : ((wrap64 (a6 + 1)) == 0) = true := beq_iff_eq.mpr c6
      have d0 : ((wrap64 (a6 + 1)) != 0) = false := bne_eq_false_iff_eq.mpr c6
      clear c6
      obtain rfl := Option.some.inj H
      have a3 : 0 ≤ (a2 : Int) := dA
      have a5 : a2 < (l0.length : Int) := dA
      obtain ⟨b0, a9, a7, a8⟩ := at_T50 b1.out a2 a3 a5
      cases a9
      replace a3 := eq_true a3
      replace a5 := eq_true a5
      go_wp2
      go_ret
      exact ⟨fS, dS⟩
     ·rw [if_neg c6] at H
      have b9 : ((wrap64 (a6 + 1)) == 0) = false := beq_eq_false_iff_ne.mpr c6
      have d0 : ((wrap64 (a6 + 1)) != 0) = true := bne_iff_ne.mpr c6
      have H' := aM H
      clear H
      have a3 : 0 ≤ (a2 : Int) := dA
      have a5 : a2 < (l0.length : Int) := dA
      obtain ⟨b0, a9, a7, a8⟩ := at_T50 b1.out a2 a3 a5
      cases a9
      replace a3 := eq_true a3
      replace a5 := eq_true a5
      go_wp2
      go_roundg k1
      case measure => have := b2.out; omega
      case rel => exact ⟨(wrap64 (a2 + 1)), (wrap64 (a6 + 1)), fS, fS, H', ⟨by have := b2.out; omega⟩, dS⟩
    ·rw [if_neg c5] at H
     obtain ⟨b7, b8⟩ := eqF c5
     by_cases c7 : ((rd_T50 l0 a2).f0).toList = ([101, 110, 100] : List UInt8)
     ·rw [if_pos c7] at H
      obtain ⟨d1, d2⟩ := eqT c7
      clear c7
      by_cases c8 : (wrap64 (a6 - 1)) = 0
      ·rw [if_pos c8] at H
       have d3 : ((wrap64 (a6 - 1)) == 0) = true := beq_iff_eq.mpr c8
       have d4 : ((wrap64 (a6 - 1)) != 0) = false := bne_eq_false_iff_eq.mpr c8
       clear c8
       obtain rfl := Option.some.inj H
       have a3 : 0 ≤ (a2 : Int) := dA
       have a5 : a2 < (l0.length : Int) := dA
       obtain ⟨b0, a9, a7, a8⟩ := at_T50 b1.out a2 a3 a5
       cases a9
       replace a3 := eq_true a3
       replace a5 := eq_true a5
       go_wp2
       go_ret
       exact ⟨fS, dS⟩
      ·rw [if_neg c8] at H
       have d3 : ((wrap64 (a6 - 1)) == 0) = false := beq_eq_false_iff_ne.mpr c8
       have d4 : ((wrap64 (a6 - 1)) != 0) = true := bne_iff_ne.mpr c8
       have H' := aM H
       clear H
       have a3 : 0 ≤ (a2 : Int) := dA
       have a5 : a2 < (l0.length : Int) := dA
       obtain ⟨b0, a9, a7, a8⟩ := at_T50 b1.out a2 a3 a5
       cases a9
       replace a3 := eq_true a3
       replace a5 := eq_true a5
       go_wp2
       go_roundg k1
       case measure => have := b2.out; omega
       case rel => exact ⟨(wrap64 (a2 + 1)), (wrap64 (a6 - 1)), fS, fS, H', ⟨by have := b2.out; omega⟩, dS⟩
     ·rw [if_neg c7] at H
      obtain ⟨d1, d2⟩ := eqF c7
      by_cases c9 : a6 = 0
      ·rw [if_pos c9] at H
       have d5 : (a6 == 0) = true := beq_iff_eq.mpr c9
       have d6 : (a6 != 0) = false := bne_eq_false_iff_eq.mpr c9
       clear c9
       obtain rfl := Option.some.inj H
       have a3 : 0 ≤ (a2 : Int) := dA
       have a5 : a2 < (l0.length : Int) := dA
       obtain ⟨b0, a9, a7, a8⟩ := at_T50 b1.out a2 a3 a5
       cases a9
       replace a3 := eq_true a3
       replace a5 := eq_true a5
       go_wp2
       go_ret
       exact ⟨fS, dS⟩
      ·rw [if_neg c9] at H
       have d5 : (a6 == 0) = false := beq_eq_false_iff_ne.mpr c9
       have d6 : (a6 != 0) = true := bne_iff_ne.mpr c9
       have H' := aM H
       clear H
       have a3 : 0 ≤ (a2 : Int) := dA
       have a5 : a2 < (l0.length : Int) := dA
       obtain ⟨b0, a9, a7, a8⟩ := at_T50 b1.out a2 a3 a5
       cases a9
       replace a3 := eq_true a3
       replace a5 := eq_true a5
       go_wp2
       go_roundg k1
       case measure => have := b2.out; omega
       case rel => exact ⟨(wrap64 (a2 + 1)), (a6), fS, fS, H', ⟨by have := b2.out; omega⟩, dS⟩
   ·obtain rfl := Option.some.inj H
    go_wp2
    go_ret
    exact ⟨fS, dS⟩
mutual
def spec_l06Flat.l0 : Nat → List (S50) → List (S50) → Int → Option ((List (S50)))
 | 0, _, _, _ => none
 | k + 1, x0, x3, x4 => if x4 < (x0.length : Int) then (if (wrap64 (x4 + 1)) ≥ (x0.length : Int) then (spec_l06Flat.j1 k x0 x3 x4 true) else (if 0 ≤ (wrap64 (x4 + 1)) then (if (wrap64 (x4 + 1)) < (x0.length : Int) then (spec_l06Flat.j1 k x0 x3 x4 (((rd_T50 x0 (wrap64 (x4 + 1))).f0).toList != ([114, 101, 112, 101, 97, 116] : List UInt8))) else (none)) else (none))) else (some x3)
def spec_l06Flat.j1 : Nat → List (S50) → List (S50) → Int → Bool → Option ((List (S50)))
 | 0, _, _, _, _ => none
 | k + 1, x0, x3, x4, a5 => if a5 = true then (if 0 ≤ x4 then (if x4 < (x0.length : Int) then (if x3.length < 5864062014805 then (spec_l06Flat.l0 k x0 (x3 ++ [(⟨(rd_T50 x0 x4).f0, (rd_T50 x0 x4).f1⟩ : S50)]) (wrap64 (x4 + 1))) else (none)) else (none)) else (none)) else ((spec_l06End.f k x0 (wrap64 (x4 + 1))).bind fun a2 => (if 0 ≤ (wrap64 (x4 + 2)) then (if (wrap64 (x4 + 2)) ≤ a2 then (if a2 ≤ (x0.length : Int) then ((spec_l06Flat.f k ((x0.take (a2 : Int).toNat).drop ((wrap64 (x4 + 2)) : Int).toNat)).bind fun a3 => (spec_l06Flat.l1 k x0 x3 x4 a2 a3 0)) else (none)) else (none)) else (none)))
def spec_l06Flat.l1 : Nat → List (S50) → List (S50) → Int → Int → List (S50) → Int → Option ((List (S50)))
 | 0, _, _, _, _, _, _ => none
 | k + 1, x0, x3, x4, x5, x6, x7 => if 0 ≤ x4 then (if x4 < (x0.length : Int) then (if x7 < ((rd_T50 x0 x4).f1) then (if x3.length + x6.length < 5864062014805 then (spec_l06Flat.l1 k x0 (x3 ++ x6) x4 x5 x6 (wrap64 (x7 + 1))) else (none)) else (spec_l06Flat.l0 k x0 x3 (wrap64 (x5 + 1)))) else (none)) else (none)
def spec_l06Flat.f : Nat → List (S50) → Option ((List (S50)))
 | 0, _ => none
 | k + 1, l0 => spec_l06Flat.l0 k l0 (([] : List (S50))) 0
end
theorem spec_l06Flat.calls (k : Nat) : ∀ (A0 : Option Addr) (c0 : Nat) (l0 : List (S50)) (r : List (S50)) (w : World) (hr0 : Kd.C k50 w A0 l0.length l0) (i1 : l0.length ≤ c0) (h : spec_l06Flat.f k l0 = some r),
  Calls Tryz.prog 105 #[.slice A0 l0.length c0] w fun e w' => ∃ v0_ : Value, e = .returned (v0_) ∧ Kd.R k50 50 w' w.heap.size (fun _ => True) v0_ r ∧ Below w.heap.size w w' := by
 induction k using Nat.strongRecOn with
 | _ k ih =>
 intro A0 c0 l0 r w hr0 i1 h
 cases k with
 | zero => exact absurd h (by simp [spec_l06Flat.f])
 | succ k =>
 simp only [spec_l06Flat.f] at h
 have hu50 := Tryz.underlying50
 have e7 := aM hr0
 have j5 := aM i1
 clear hr0 i1
 have HB := aM (Below.refl w.heap.size w)
 have H : (spec_l06Flat.l0 k l0 (([] : List (S50))) 0) = some r := h
 clear h
 obtain ⟨f4, hy_⟩ : ∃ y_ : List (S50), y_ = (([] : List (S50))) := ⟨_, rfl⟩
 replace H : (spec_l06Flat.l0 k l0 f4 0) = some r := yS
 have Ny617 := aM hy_
 clear hy_
 have H' := aM H
 clear H
 go_enter Tryz.func105, Tryz.ntmps105
 go_wp2_with (first | ((with_reducible refine gate_dst (N := 8) rfl ?_); refine Kd.R_lit k50 _ 50 ?hg (N := 8) ?hd (xs := ([] : List (S50))) (inner := []) (ok := fun _ => True) (okp := fun _ => True) ?hr ?hp (fun _ hk => hk) trivial (Below.refl _ _) (Nat.le_refl _) (by simp) ?_; (case hd => rfl); (case hg => rfl); (case hr => first | (go_simp; done) | (go_simp; rfl)); (case hp => exact (Reps.none _ _)); intro k4 w2 f5 hb hg_ hnew_; clear hg_ hnew_; (first | rw [← Ny617.out] at f5 | (simp only [Int.reduceToNat] at f5; rw [← Ny617.out] at f5)); have f6 := aM (Kd.R_lower f5 (below_size bS)); replace HB := hB hb; clear hb f5))
 go_loopg [3, 4] k (fun kq v3 v4 w' => ∃ (b0 : List (S50)) (a2 : Int), v4 = .int .i64 a2 ∧ Aside0 (spec_l06Flat.l0 kq l0 b0 a2 = some r) ∧ Aside0 (kq ≤ k) ∧ Aside0 (Kd.R k50 50 w' w.heap.size (fun _ => True) v3 b0) ∧ Aside0 (Below w.heap.size w w'))
 case atStart => exact ⟨(f4), (0), fS, H', ⟨Nat.le_refl _⟩, ⟨rS f6⟩, ⟨bS⟩⟩
 case round =>
  clear H'
  try clear c1
  try clear p2
  obtain ⟨b0, a2, rfl, HA, e1, a5, HB⟩ := hrel
  cases gk with
  | zero => exact absurd HA.out (by simp [spec_l06Flat.l0])
  | succ k1 =>
   have H := HA.out
   clear HA
   simp only [spec_l06Flat.l0] at H
   by_cases c4 : a2 < (l0.length : Int)
   ·rw [if_pos c4] at H
    have e4 : decide (a2 < (l0.length : Int)) = true := decide_eq_true c4
    clear c4
    have i3 := aM H
    clear H
    go_upto_region 5 with (fail)
    go_cut [28] (fun k5 wc => ∃ (kq : Nat) (d1 : Bool), k5 = .bool d1 ∧ Aside0 (spec_l06Flat.j1 kq l0 b0 a2 d1 = some r) ∧ Aside0 (kq ≤ k1) ∧ Aside0 (Kd.R k50 50 wc w.heap.size (fun _ => True) u3 b0) ∧ Aside0 (Below w.heap.size w wc))
    case first =>
     have H := i3.out
     clear i3
     by_cases c6 : (wrap64 (a2 + 1)) ≥ (l0.length : Int)
     ·rw [if_pos c6] at H
      have b7 : decide ((l0.length : Int) ≤ (wrap64 (a2 + 1))) = true := decide_eq_true c6
      clear c6
      (first | rw [b7] | (simp only [i64_w, i32_w]; rw [b7]) | skip)
      have H' := aM H
      clear H
      go_wp2
      go_meet
      case rel => exact ⟨_, (true), fS, H', ⟨by have := e1.out; first | omega | exact Nat.le_refl _⟩, ⟨rS a5⟩, ⟨bS⟩⟩
     ·rw [if_neg c6] at H
      have b7 : decide ((l0.length : Int) ≤ (wrap64 (a2 + 1))) = false := decide_eq_false c6
      clear c6
      (first | rw [b7] | (simp only [i64_w, i32_w]; rw [b7]) | skip)
      obtain ⟨ji7, hji7⟩ : ∃ j_ : Int, (wrap64 (a2 + 1)) = j_ := ⟨_, rfl⟩
      replace H : (if 0 ≤ (ji7) then (if (ji7) < (l0.length : Int) then (spec_l06Flat.j1 k1 l0 b0 a2 (((rd_T50 l0 (ji7)).f0).toList != ([114, 101, 112, 101, 97, 116] : List UInt8))) else (none)) else (none)) = some r := by first | (rw [hji7] at H; exact H) | (simp only [hji7] at H ⊢; exact H)
      (try rw [hji7] at b7)
      have hji7w : (IntKind.i64.wrap (a2 + 1)) = ji7 := (i64_w _).trans hji7
      obtain ⟨f7, H⟩ := iT H
      obtain ⟨f8, H⟩ := iT H
      have H' := aM H
      clear H
      have d4 : 0 ≤ ((ji7) : Int) := dA
      have d5 : (ji7) < (l0.length : Int) := dA
      obtain ⟨j6, i4, a8, a9⟩ := at_T50 e7.out (ji7) d4 d5
      cases i4
      replace a8 := cB HB a8
      replace a9 := cB HB a9
      replace d4 := eq_true d4
      replace d5 := eq_true d5
      go_wp2
      go_meet
      case rel => exact ⟨_, ((((rd_T50 l0 (ji7)).f0).toList != ([114, 101, 112, 101, 97, 116] : List UInt8))), (by first | rfl | (simp; done) | (simp only [← hji7] <;> (first | rfl | simp)) | (simp [*]; done)), H', ⟨by have := e1.out; first | omega | exact Nat.le_refl _⟩, ⟨rS a5⟩, ⟨bS⟩⟩
    case rest =>
     clear i3
     try clear c1
     try clear p2
     try clear c4
     try clear e4
     try clear c6
     try clear b7
     try clear p6
     try clear q6
     try clear k6
     try clear c8
     try clear f7
     try clear c9
     try clear f8
     try clear a8
     try clear a9
     try clear p2
     try clear d4
     try clear d5
     obtain ⟨kq, d1, rfl, HA, HJ4, a5, HB⟩ := hcut
     cases kq with
     | zero => exact absurd HA.out (by simp [spec_l06Flat.j1])
     | succ kj4 =>
      have H := HA.out
      clear HA
      simp only [spec_l06Flat.j1] at H
      by_cases c10 : d1 = true
      ·subst c10
       rw [if_pos rfl] at H
       obtain ⟨f9, H⟩ := iT H
       obtain ⟨g0, H⟩ := iT H
       obtain ⟨LMc13, H⟩ := iL H
       obtain ⟨g1, hy_⟩ : ∃ y_ : List (S50), y_ = (b0 ++ [(⟨(rd_T50 l0 a2).f0, (rd_T50 l0 a2).f1⟩ : S50)]) := ⟨_, rfl⟩
       replace H : (spec_l06Flat.l0 kj4 l0 g1 (wrap64 (a2 + 1))) = some r := yS
       have Ny622 := aM hy_
       clear hy_
       have H' := aM H
       clear H
       have e2 : 0 ≤ (a2 : Int) := dA
       have e3 : a2 < (l0.length : Int) := dA
       obtain ⟨j7, i5, b2, b6⟩ := at_T50 e7.out a2 e2 e3
       cases i5
       replace b2 := cB HB b2
       replace b6 := cB HB b6
       replace e2 := eq_true e2
       replace e3 := eq_true e3
       go_wp2_with (first | ((with_reducible refine gate_builtin (b := .append) (xs := #[.tmp 29, .tmp 34]) rfl ?_); at_builtin; refine Kd.R_append k50 (w0 := w) w.heap.size rfl (.tmp 29) (.tmp 34) 59 50 (.agg #[(.string ⟨#[]⟩), (.int .i64 0)]) 24 rfl Tryz.underlying59 info50 rfl (by decide) (by omega) u3 b0 (⟨(rd_T50 l0 a2).f0, (rd_T50 l0 a2).f1⟩ : S50) [.string ((rd_T50 l0 a2).f0), .int .i64 ((rd_T50 l0 a2).f1)] (fun _ => True) (fun _ => False) rfl rfl ?aP (fun _ hk => hk.elim) ?aF ?aO ?aB ?aS ?aL ?_; (case aP => exact k50_mkM _ _ _ (⟨(rd_T50 l0 a2).f0, (rd_T50 l0 a2).f1⟩ : S50)); (case aB => exact bS); (case aF => exact (fun _ _ => trivial)); (case aO => exact (rS a5)); (case aS => exact (below_size bS)); (case aL => have := LMc13.out; (try dsimp only at this); omega); intro k7 l4 ho hb hg hat; rw [← Ny622.out] at ho; have g2 := aM (ho); replace HB := aM (hb); clear a5; clear ho hb hg hat))
       go_roundg kj4
       case measure => have := e1.out; have := HJ4.out; omega
       case rel => exact ⟨(g1), (wrap64 (a2 + 1)), fS, H', ⟨by have := e1.out; have := HJ4.out; omega⟩, ⟨rS g2⟩, ⟨bS⟩⟩
      ·obtain rfl := Bool.eq_false_iff.mpr c10
       rw [if_neg nF] at H
       replace H := bN H
       obtain ⟨a3, j8, H⟩ := H
       obtain ⟨ji16, hji16⟩ : ∃ j_ : Int, (wrap64 (a2 + 2)) = j_ := ⟨_, rfl⟩
       replace H : (if 0 ≤ (ji16) then (if (ji16) ≤ a3 then (if a3 ≤ (l0.length : Int) then ((spec_l06Flat.f kj4 ((l0.take (a3 : Int).toNat).drop ((ji16) : Int).toNat)).bind fun b1 => (spec_l06Flat.l1 kj4 l0 b0 a2 a3 b1 0)) else (none)) else (none)) else (none)) = some r := by first | (rw [hji16] at H; exact H) | (simp only [hji16] at H ⊢; exact H)
       (try rw [hji16] at j8)
       have hji16w : (IntKind.i64.wrap (a2 + 2)) = ji16 := (i64_w _).trans hji16
       by_cases e8 : 0 ≤ (ji16)
       ·rw [if_pos e8] at H
        have g3 := eq_true e8
        have g4 : decide (0 ≤ (ji16)) = true := decide_eq_true e8
        clear e8
        by_cases e9 : (ji16) ≤ a3
        ·rw [if_pos e9] at H
         have g5 := eq_true e9
         have g6 : decide ((ji16) ≤ a3) = true := decide_eq_true e9
         clear e9
         by_cases f3 : a3 ≤ (l0.length : Int)
         ·rw [if_pos f3] at H
          have g7 := eq_true f3
          have g8 : decide (a3 ≤ (l0.length : Int)) = true := decide_eq_true f3
          clear f3
          obtain ⟨b8, hy_⟩ : ∃ y_ : List (S50), y_ = ((l0.take (a3 : Int).toNat).drop ((ji16) : Int).toNat) := ⟨_, rfl⟩
          replace H : ((spec_l06Flat.f kj4 b8).bind fun b1 => (spec_l06Flat.l1 kj4 l0 b0 a2 a3 b1 0)) = some r := yS
          have Ny626 := aM hy_
          clear hy_
          replace H := bN H
          obtain ⟨b1, k9, H⟩ := H
          have H' := aM H
          clear H
          go_wp2_with (first | ((with_reducible refine gC 122 ?_); refine cM (some 39) Tryz.func122 (spec_l06End.calls kj4 _ _ l0 (wrap64 (a2 + 1)) a3 _ (cC e7 HB) j5.out j8.out) ?_; rintro e w' ⟨rfl, ⟨nd, rfl⟩⟩; refine ⟨_, rfl, ?_⟩; have g9 : (a3 : Int) ≤ ((l0.length : Int) : Int) := dA; obtain ⟨i021, hi021, _, hsz21, _⟩ := info_parts info50; have hroom21 : l0.length ≤ c0 := j5.out; have hC21 : Kd.C k50 _ A0 l0.length l0 := e7.out; have ql21 : ((ji16) : Int) ≤ (a3 : Int) := dA; have h0 : (0 : Int) ≤ ((ji16) : Int) := dA; have hcut21 := cut_mid (P := Tryz.prog) 59 50 .i64 .i64 Tryz.underlying59 hi021 2 hsz21 A0 l0.length c0 (ji16) a3 h0 ql21 g9 hroom21; have d6 := Kd.C_mid (lo := ((ji16) : Int).toNat) (hi := (a3 : Int).toNat) (c := c0) hC21 (by omega) (by omega) hroom21; obtain ⟨j9, hA21⟩ : ∃ A1, A1 = (if c0 = ((ji16) : Int).toNat then A0 else (A0 : Option Addr).map (·.add (((ji16) : Int).toNat * 2))) := ⟨_, rfl⟩; obtain ⟨i6, e5⟩ : ∃ c1, c1 = c0 - ((ji16) : Int).toNat := ⟨_, rfl⟩; have hy21 : b8.length = (a3 : Int).toNat - ((ji16) : Int).toNat := (by rw [Ny626.out, List.length_drop, List.length_take] <;> omega); rw [show ((l0).take (a3 : Int).toNat).drop ((ji16) : Int).toNat = b8 from Ny626.out.symm] at d6; replace d6 : Kd.C k50 _ j9 b8.length b8 := (by rw [hA21]; exact d6); rw [← hy21, ← hA21, ← e5] at hcut21; have h1 := aM d6; have h2 := aM (show b8.length ≤ i6 from by rw [hy21, e5]; exact Nat.sub_le_sub_right (Nat.le_trans (by omega) hroom21) _); clear d6 hC21 hroom21 hi021 hsz21 e5; have KY21 := aM hy21; have KA21 := aM hA21; clear hy21 hA21; replace g9 := eq_true g9) | ((with_reducible refine gC 105 ?_); refine cL (some 45) Tryz.func105 #[.slice j9 b8.length i6] ?_; (with_reducible refine (ih kj4 (by have := e1.out; have := HJ4.out; omega) _ _ b8 b1 _ ?side1 ?side2 k9.out).mono ?_); (case side1 => exact cS (Kd.C_below h1.out bS)); (case side2 => exact h2.out); rintro e l5 ⟨h3, rfl, i7, hb⟩; refine ⟨_, rfl, ?_⟩; have h4 := aM (Kd.R_lower (Kd.R_new' i7 (Kd.R_lt (rS a5))) (below_size bS)); replace a5 := aM (Kd.R_elder' (rS a5) (Kd.R_base i7) hb); replace HB := hB hb; (try clear hb i7)))
          go_loopg [3, 7] kj4 (fun kq v3 v7 w' => ∃ (d2 : List (S50)) (e0 : Int), v7 = .int .i64 e0 ∧ Aside0 (spec_l06Flat.l1 kq l0 d2 a2 a3 b1 e0 = some r) ∧ Aside0 (kq ≤ kj4) ∧ Aside0 (Kd.R k50 50 w' w.heap.size (fun k_ => some k_ ≠ (h3 : Value).ownBlock) v3 d2) ∧ Aside0 (Kd.R k50 50 w' w.heap.size (fun k_ => some k_ ≠ (v3 : Value).ownBlock) h3 b1) ∧ Aside0 (Below w.heap.size w w'))
          case atStart => exact ⟨(b0), (0), fS, H', ⟨Nat.le_refl _⟩, ⟨by exact rT (Kd.R_mono a5.out (fun _ hk => hk.2))⟩, ⟨by exact rT (Kd.R_mono h4.out (fun _ hk => hk.2))⟩, ⟨bS⟩⟩
          case round =>
           clear H'
           try clear c1
           try clear c2
           try clear p2
           try clear q2
           try clear c4
           try clear e4
           try clear c6
           try clear b7
           try clear p6
           try clear q6
           try clear k6
           try clear c8
           try clear f7
           try clear c9
           try clear f8
           try clear c10
           try clear l7
           try clear f9
           try clear l8
           try clear g0
           try clear l9
           try clear e8
           try clear g3
           try clear g4
           try clear e9
           try clear g5
           try clear g6
           try clear f3
           try clear g7
           try clear g8
           try clear i6
           try clear g9
           try clear a8
           try clear a9
           try clear b2
           try clear b6
           try clear p2
           try clear p6
           try clear d4
           try clear e2
           try clear h0
           try clear g9
           try clear q6
           try clear d5
           try clear e3
           obtain ⟨d2, e0, rfl, HA, h9, a5, d3, HB⟩ := hrel
           cases gk with
           | zero => exact absurd HA.out (by simp [spec_l06Flat.l1])
           | succ k3 =>
            have H := HA.out
            clear HA
            simp only [spec_l06Flat.l1] at H
            obtain ⟨k0, H⟩ := iT H
            obtain ⟨k2, H⟩ := iT H
            rcases iD H with ⟨h5, H⟩ | ⟨h5, H⟩
            ·obtain ⟨LMc26, H⟩ := iL H
             obtain ⟨h6, hy_⟩ : ∃ y_ : List (S50), y_ = (d2 ++ b1) := ⟨_, rfl⟩
             replace H : (spec_l06Flat.l1 k3 l0 h6 a2 a3 b1 (wrap64 (e0 + 1))) = some r := yS
             have Ny634 := aM hy_
             clear hy_
             have H' := aM H
             clear H
             have b9 : 0 ≤ (a2 : Int) := dA
             have d0 : a2 < (l0.length : Int) := dA
             obtain ⟨h7, e6, a6, a7⟩ := at_T50 e7.out a2 b9 d0
             cases e6
             replace a6 := cB HB a6
             replace a7 := cB HB a7
             replace b9 := eq_true b9
             replace d0 := eq_true d0
             obtain ⟨i8, i9, j4⟩ := Kd.R_slice d3.out
             subst j4
             go_wp2_with (first | ((with_reducible refine gate_builtin (b := .append) (xs := #[.tmp 55, .tmp 56]) rfl ?_); at_builtin; refine Kd.R_append_rows k50 (w0 := w) w.heap.size rfl (.tmp 55) (.tmp 56) 59 50 (.agg #[(.string ⟨#[]⟩), (.int .i64 0)]) 24 rfl Tryz.underlying59 info50 rfl (by decide) (by omega) u3 d2 b1 _ _ _ (fun k_ => some k_ ≠ (.slice i8 b1.length i9 : Value).ownBlock) (fun _ => False) rfl rfl ?aO ?aR (fun _ _ h => h) (fun _ h => h.elim) ?aF ?aB ?aS ?aL ?_; (case aR => exact cS (Kd.R_reads' d3.out).2.2); (case aB => exact bS); (case aF => exact (fun k_ hk => Kd.fresh' (Kd.R_lt (rS d3)) k_ hk)); (case aO => exact (rS a5)); (case aS => exact (below_size bS)); (case aL => have := LMc26.out; (try dsimp only at this); omega); intro l3 m1 ho hb hg hat; rw [← Ny634.out] at ho; have h8 := aM (ho); replace d3 := aM (Kd.R_after (ok := (fun _ => True)) (by exact rM d3) hg hat); replace HB := aM (hb); clear a5; clear ho hb hg hat))
             go_roundg k3
             case measure => have := e1.out; have := HJ4.out; have := h9.out; omega
             case rel => exact ⟨(h6), (wrap64 (e0 + 1)), fS, H', ⟨by have := e1.out; have := HJ4.out; have := h9.out; omega⟩, ⟨rS h8⟩, ⟨by exact rT (Kd.R_mono d3.out (fun _ hk => hk.2))⟩, ⟨bS⟩⟩
            ·have H' := aM H
             clear H
             have b9 : 0 ≤ (a2 : Int) := dA
             have d0 : a2 < (l0.length : Int) := dA
             obtain ⟨h7, e6, a6, a7⟩ := at_T50 e7.out a2 b9 d0
             cases e6
             replace a6 := cB HB a6
             replace a7 := cB HB a7
             replace b9 := eq_true b9
             replace d0 := eq_true d0
             go_wp2
             go_roundg k3
             case measure => have := e1.out; have := HJ4.out; have := h9.out; omega
             case rel => exact ⟨(d2), (wrap64 (a3 + 1)), fS, H', ⟨by have := e1.out; have := HJ4.out; have := h9.out; omega⟩, ⟨by exact rT (Kd.R_mono a5.out (fun _ hk => trivial))⟩, ⟨bS⟩⟩
         ·rw [if_neg f3] at H
          exact absurd H (by simp)
        ·rw [if_neg e9] at H
         exact absurd H (by simp)
       ·rw [if_neg e8] at H
        exact absurd H (by simp)
   ·rw [if_neg c4] at H
    have e4 : decide (a2 < (l0.length : Int)) = false := decide_eq_false c4
    clear c4
    obtain rfl := Option.some.inj H
    go_wp2
    go_ret
    exact ⟨_, eS, rS a5, bS⟩
mutual
def spec_BlockDepth.l0 : Nat → List (S50) → Int → Int → Int → Option (Int)
 | 0, _, _, _, _ => none
 | k + 1, x0, x3, x4, x5 => if x5 < (x0.length : Int) then (if 0 ≤ x5 then ((spec_TokenOk.f k ((rd_T50 x0 x5).f0) ((rd_T50 x0 x5).f1)).bind fun a2 => (if a2 = true then (spec_BlockDepth.j1 k x0 x3 x4 x5 (decide ((x0.length : Int) > 60))) else (spec_BlockDepth.j1 k x0 x3 x4 x5 true))) else (none)) else (if x3 = 0 then (if x4 > 3 then (some (-1)) else (some x4)) else (some (-1)))
def spec_BlockDepth.j1 : Nat → List (S50) → Int → Int → Int → Bool → Option (Int)
 | 0, _, _, _, _, _ => none
 | k + 1, x0, x3, x4, x5, a5 => if a5 = true then (some (-1)) else (if 0 ≤ x5 then (if x5 < (x0.length : Int) then (if ((rd_T50 x0 x5).f0).toList = ([114, 101, 112, 101, 97, 116] : List UInt8) then (if x5 = 0 then (some (-1)) else (if 0 ≤ (wrap64 (x5 - 1)) then (if (wrap64 (x5 - 1)) < (x0.length : Int) then (if ((rd_T50 x0 (wrap64 (x5 - 1))).f0).toList = ([] : List UInt8) then ((spec_l01In.f ((rd_T50 x0 (wrap64 (x5 - 1))).f1) 0 9).bind fun a3 => (if a3 = true then (spec_BlockDepth.l0 k x0 (wrap64 (x3 + 1)) (mx x4 (wrap64 (x3 + 1))) (wrap64 (x5 + 1))) else (some (-1)))) else (some (-1))) else (none)) else (none))) else (if ((rd_T50 x0 x5).f0).toList = ([101, 110, 100] : List UInt8) then (if (wrap64 (x3 - 1)) < 0 then (some (-1)) else (spec_BlockDepth.l0 k x0 (wrap64 (x3 - 1)) x4 (wrap64 (x5 + 1)))) else (spec_BlockDepth.l0 k x0 x3 x4 (wrap64 (x5 + 1))))) else (none)) else (none))
end
def spec_BlockDepth.f (k : Nat) (l0 : List (S50)) : Option (Int) := spec_BlockDepth.l0 k l0 0 0 0
theorem spec_BlockDepth.calls (k : Nat) (A0 : Option Addr) (c0 : Nat) (l0 : List (S50)) (r : Int) (w : World) (hr0 : Kd.C k50 w A0 l0.length l0) (h5 : l0.length ≤ c0) (h : spec_BlockDepth.f k l0 = some r) :
  Calls Tryz.prog 128 #[.slice A0 l0.length c0] w fun e w' => e = .returned (.int .i64 r) ∧ Below w.heap.size w w' := by
 have hu50 := Tryz.underlying50
 have e1 := aM hr0
 have i4 := aM h5
 clear hr0 h5
 have HB := aM (Below.refl w.heap.size w)
 have H := h
 clear h
 unfold spec_BlockDepth.f at H
 have H' := aM H
 clear H
 go_enter Tryz.func128, Tryz.ntmps128
 go_wp2
 go_loopg [3, 4, 5] k (fun kq v3 v4 v5 w' => ∃ (b0 : Int) (b9 : Int) (a2 : Int), v3 = .int .i64 b0 ∧ v4 = .int .i64 b9 ∧ v5 = .int .i64 a2 ∧ Aside0 (spec_BlockDepth.l0 kq l0 b0 b9 a2 = some r) ∧ Aside0 (kq ≤ k) ∧ Aside0 (Below w.heap.size w w'))
 case atStart => exact ⟨(0), (0), (0), fS, fS, fS, H', ⟨Nat.le_refl _⟩, ⟨bS⟩⟩
 case round =>
  clear H'
  try clear c1
  obtain ⟨b0, b9, a2, rfl, rfl, rfl, HA, e5, HB⟩ := hrel
  cases gk with
  | zero => exact absurd HA.out (by simp [spec_BlockDepth.l0])
  | succ k1 =>
   have H := HA.out
   clear HA
   simp only [spec_BlockDepth.l0] at H
   by_cases c2 : a2 < (l0.length : Int)
   ·rw [if_pos c2] at H
    have f5 : decide (a2 < (l0.length : Int)) = true := decide_eq_true c2
    clear c2
    have h2 := aM H
    clear H
    go_upto_region 6 with (fail)
    go_cut [22] (fun i3 wc => ∃ (kq : Nat) (e2 : Bool), i3 = .bool e2 ∧ Aside0 (spec_BlockDepth.j1 kq l0 b0 b9 a2 e2 = some r) ∧ Aside0 (kq ≤ k1) ∧ Aside0 (Below w.heap.size w wc))
    case first =>
     have H := h2.out
     clear h2
     obtain ⟨e6, H⟩ := iT H
     (first | rw [e6] | (simp only [i64_w, i32_w]; rw [e6]) | skip)
     replace H := bN H
     obtain ⟨h3, A5, H⟩ := H
     by_cases c6 : h3 = true
     ·subst c6
      rw [if_pos rfl] at H
      have H' := aM H
      clear H
      have d3 : 0 ≤ (a2 : Int) := dA
      have d4 : a2 < (l0.length : Int) := dA
      obtain ⟨f6, e7, b2, b6⟩ := at_T50 e1.out a2 d3 d4
      cases e7
      replace b2 := cB HB b2
      replace b6 := cB HB b6
      replace d3 := eq_true d3
      replace d4 := eq_true d4
      go_wp2_with (first | ((with_reducible refine gC 24 ?_); refine cM (some 16) Tryz.func24 (spec_TokenOk.calls k1 ((rd_T50 l0 a2).f0) ((rd_T50 l0 a2).f1) _ _ A5.out) ?_; rintro e w7 ⟨rfl, hb⟩; refine ⟨_, rfl, ?_⟩; replace HB := hB hb; (try clear hb)))
      go_meet
      case rel => exact ⟨_, (decide ((l0.length : Int) > 60)), fS, H', ⟨by have := e5.out; first | omega | exact Nat.le_refl _⟩, ⟨bS⟩⟩
     ·obtain rfl := Bool.eq_false_iff.mpr c6
      rw [if_neg nF] at H
      have H' := aM H
      clear H
      have d3 : 0 ≤ (a2 : Int) := dA
      have d4 : a2 < (l0.length : Int) := dA
      obtain ⟨f6, e7, b2, b6⟩ := at_T50 e1.out a2 d3 d4
      cases e7
      replace b2 := cB HB b2
      replace b6 := cB HB b6
      replace d3 := eq_true d3
      replace d4 := eq_true d4
      go_wp2_with (first | ((with_reducible refine gC 24 ?_); refine cM (some 16) Tryz.func24 (spec_TokenOk.calls k1 ((rd_T50 l0 a2).f0) ((rd_T50 l0 a2).f1) _ _ A5.out) ?_; rintro e w8 ⟨rfl, hb⟩; refine ⟨_, rfl, ?_⟩; replace HB := hB hb; (try clear hb)))
      go_meet
      case rel => exact ⟨_, (true), fS, H', ⟨by have := e5.out; first | omega | exact Nat.le_refl _⟩, ⟨bS⟩⟩
    case rest =>
     clear h2
     try clear c1
     try clear c2
     try clear f5
     try clear p2
     try clear c4
     try clear e6
     try clear c6
     try clear p6
     try clear q6
     try clear i5
     try clear b2
     try clear b6
     try clear d3
     try clear d4
     obtain ⟨kq, e2, rfl, HA, HJ2, HB⟩ := hcut
     cases kq with
     | zero => exact absurd HA.out (by simp [spec_BlockDepth.j1])
     | succ kj2 =>
      have H := HA.out
      clear HA
      simp only [spec_BlockDepth.j1] at H
      by_cases c9 : e2 = true
      ·subst c9
       rw [if_pos rfl] at H
       obtain rfl := Option.some.inj H
       go_wp2
       go_ret
       exact ⟨eS, bS⟩
      ·obtain rfl := Bool.eq_false_iff.mpr c9
       rw [if_neg nF] at H
       obtain ⟨h6, H⟩ := iT H
       obtain ⟨h7, H⟩ := iT H
       by_cases f7 : ((rd_T50 l0 a2).f0).toList = ([114, 101, 112, 101, 97, 116] : List UInt8)
       ·rw [if_pos f7] at H
        obtain ⟨f8, f9⟩ := eqT f7
        clear f7
        by_cases e8 : a2 = 0
        ·rw [if_pos e8] at H
         have g0 : (a2 == 0) = true := beq_iff_eq.mpr e8
         have g1 : (a2 != 0) = false := bne_eq_false_iff_eq.mpr e8
         clear e8
         obtain rfl := Option.some.inj H
         have a6 : 0 ≤ (a2 : Int) := dA
         have a7 : a2 < (l0.length : Int) := dA
         obtain ⟨b1, d0, a3, a5⟩ := at_T50 e1.out a2 a6 a7
         cases d0
         replace a3 := cB HB a3
         replace a5 := cB HB a5
         replace a6 := eq_true a6
         replace a7 := eq_true a7
         go_wp2
         go_ret
         exact ⟨eS, bS⟩
        ·rw [if_neg e8] at H
         have g0 : (a2 == 0) = false := beq_eq_false_iff_ne.mpr e8
         have g1 : (a2 != 0) = true := bne_iff_ne.mpr e8
         obtain ⟨ji14, hji14⟩ : ∃ j_ : Int, (wrap64 (a2 - 1)) = j_ := ⟨_, rfl⟩
         replace H : (if 0 ≤ (ji14) then (if (ji14) < (l0.length : Int) then (if ((rd_T50 l0 (ji14)).f0).toList = ([] : List UInt8) then ((spec_l01In.f ((rd_T50 l0 (ji14)).f1) 0 9).bind fun e9 => (if e9 = true then (spec_BlockDepth.l0 kj2 l0 (wrap64 (b0 + 1)) (mx b9 (wrap64 (b0 + 1))) (wrap64 (a2 + 1))) else (some (-1)))) else (some (-1))) else (none)) else (none)) = some r := by first | (rw [hji14] at H; exact H) | (simp only [hji14] at H ⊢; exact H)
         have hji14w : (IntKind.i64.wrap (a2 - 1)) = ji14 := (i64_w _).trans hji14
         obtain ⟨h8, H⟩ := iT H
         obtain ⟨h9, H⟩ := iT H
         by_cases g2 : ((rd_T50 l0 (ji14)).f0).toList = ([] : List UInt8)
         ·rw [if_pos g2] at H
          obtain ⟨g3, g4⟩ := eqT g2
          clear g2
          replace H := bN H
          obtain ⟨e9, h4, H⟩ := H
          by_cases i1 : e9 = true
          ·subst i1
           rw [if_pos rfl] at H
           obtain ⟨ji20, hji20⟩ : ∃ j_ : Int, (mx b9 (wrap64 (b0 + 1))) = j_ := ⟨_, rfl⟩
           replace H : (spec_BlockDepth.l0 kj2 l0 (wrap64 (b0 + 1)) ji20 (wrap64 (a2 + 1))) = some r := by first | (rw [hji20] at H; exact H) | (simp only [hji20] at H ⊢; exact H)
           (try rw [hji20] at h4)
           have hji20_ : (if b9 < (wrap64 (b0 + 1)) then (wrap64 (b0 + 1)) else b9) = ji20 := hji20
           have H' := aM H
           clear H
           have a6 : 0 ≤ (a2 : Int) := dA
           have a7 : a2 < (l0.length : Int) := dA
           obtain ⟨b1, d0, a3, a5⟩ := at_T50 e1.out a2 a6 a7
           cases d0
           replace a3 := cB HB a3
           replace a5 := cB HB a5
           replace a6 := eq_true a6
           replace a7 := eq_true a7
           have d1 : 0 ≤ ((ji14) : Int) := dA
           have d2 : (ji14) < (l0.length : Int) := dA
           obtain ⟨d5, e3, a8, a9⟩ := at_T50 e1.out (ji14) d1 d2
           obtain rfl : b1 = d5 := (by injection e3)
           replace a8 := cB HB a8
           replace a9 := cB HB a9
           replace d1 := eq_true d1
           replace d2 := eq_true d2
           have d6 : 0 ≤ ((ji14) : Int) := dA
           have e0 : (ji14) < (l0.length : Int) := dA
           obtain ⟨e4, f3, b7, b8⟩ := at_T50 e1.out (ji14) d6 e0
           obtain rfl : b1 = e4 := (by injection f3)
           replace b7 := cB HB b7
           replace b8 := cB HB b8
           replace d6 := eq_true d6
           replace e0 := eq_true e0
           go_wp2_with (first | (go_at_call 65; (with_reducible refine (spec_l01In.calls ((rd_T50 l0 (ji14)).f1) 0 9 _ _ h4.out).mono ?_); rintro e w' ⟨rfl, ⟨nd, rfl⟩⟩))
           go_roundg kj2
           case measure => have := e5.out; have := HJ2.out; omega
           case rel => exact ⟨(wrap64 (b0 + 1)), (ji20), (wrap64 (a2 + 1)), fS, (by first | rfl | (simp; done) | (simp only [← hji20] <;> (first | rfl | simp)) | (simp [*]; done)), fS, H', ⟨by have := e5.out; have := HJ2.out; omega⟩, ⟨bS⟩⟩
          ·obtain rfl := Bool.eq_false_iff.mpr i1
           rw [if_neg nF] at H
           obtain rfl := Option.some.inj H
           have a6 : 0 ≤ (a2 : Int) := dA
           have a7 : a2 < (l0.length : Int) := dA
           obtain ⟨b1, d0, a3, a5⟩ := at_T50 e1.out a2 a6 a7
           cases d0
           replace a3 := cB HB a3
           replace a5 := cB HB a5
           replace a6 := eq_true a6
           replace a7 := eq_true a7
           have d1 : 0 ≤ ((ji14) : Int) := dA
           have d2 : (ji14) < (l0.length : Int) := dA
           obtain ⟨d5, e3, a8, a9⟩ := at_T50 e1.out (ji14) d1 d2
           obtain rfl : b1 = d5 := (by injection e3)
           replace a8 := cB HB a8
           replace a9 := cB HB a9
           replace d1 := eq_true d1
           replace d2 := eq_true d2
           have d6 : 0 ≤ ((ji14) : Int) := dA
           have e0 : (ji14) < (l0.length : Int) := dA
           obtain ⟨e4, f3, b7, b8⟩ := at_T50 e1.out (ji14) d6 e0
           obtain rfl : b1 = e4 := (by injection f3)
           replace b7 := cB HB b7
           replace b8 := cB HB b8
           replace d6 := eq_true d6
           replace e0 := eq_true e0
           go_wp2_with (first | (go_at_call 65; (with_reducible refine (spec_l01In.calls ((rd_T50 l0 (ji14)).f1) 0 9 _ _ h4.out).mono ?_); rintro e w' ⟨rfl, ⟨nd, rfl⟩⟩))
           go_ret
           exact ⟨by first | rfl | (simp [errW_none, errW_some] <;> rfl) | (simp only [← hji14]; first | rfl | (simp [errW_none, errW_some] <;> rfl)) | (simp [*, errW_none, errW_some] <;> rfl), bS⟩
         ·rw [if_neg g2] at H
          obtain ⟨g3, g4⟩ := eqF g2
          obtain rfl := Option.some.inj H
          have a6 : 0 ≤ (a2 : Int) := dA
          have a7 : a2 < (l0.length : Int) := dA
          obtain ⟨b1, d0, a3, a5⟩ := at_T50 e1.out a2 a6 a7
          cases d0
          replace a3 := cB HB a3
          replace a5 := cB HB a5
          replace a6 := eq_true a6
          replace a7 := eq_true a7
          have d1 : 0 ≤ ((ji14) : Int) := dA
          have d2 : (ji14) < (l0.length : Int) := dA
          obtain ⟨d5, e3, a8, a9⟩ := at_T50 e1.out (ji14) d1 d2
          obtain rfl : b1 = d5 := (by injection e3)
          replace a8 := cB HB a8
          replace a9 := cB HB a9
          replace d1 := eq_true d1
          replace d2 := eq_true d2
          go_wp2
          go_ret
          exact ⟨by first | rfl | (simp [errW_none, errW_some] <;> rfl) | (simp only [← hji14]; first | rfl | (simp [errW_none, errW_some] <;> rfl)) | (simp [*, errW_none, errW_some] <;> rfl), bS⟩
       ·rw [if_neg f7] at H
        obtain ⟨f8, f9⟩ := eqF f7
        by_cases g5 : ((rd_T50 l0 a2).f0).toList = ([101, 110, 100] : List UInt8)
        ·rw [if_pos g5] at H
         obtain ⟨g6, g7⟩ := eqT g5
         clear g5
         rcases iD H with ⟨g8, H⟩ | ⟨g8, H⟩
         ·obtain rfl := Option.some.inj H
          have a6 : 0 ≤ (a2 : Int) := dA
          have a7 : a2 < (l0.length : Int) := dA
          obtain ⟨b1, d0, a3, a5⟩ := at_T50 e1.out a2 a6 a7
          cases d0
          replace a3 := cB HB a3
          replace a5 := cB HB a5
          replace a6 := eq_true a6
          replace a7 := eq_true a7
          go_wp2
          go_ret
          exact ⟨eS, bS⟩
         ·have H' := aM H
          clear H
          have a6 : 0 ≤ (a2 : Int) := dA
          have a7 : a2 < (l0.length : Int) := dA
          obtain ⟨b1, d0, a3, a5⟩ := at_T50 e1.out a2 a6 a7
          cases d0
          replace a3 := cB HB a3
          replace a5 := cB HB a5
          replace a6 := eq_true a6
          replace a7 := eq_true a7
          go_wp2
          go_roundg kj2
          case measure => have := e5.out; have := HJ2.out; omega
          case rel => exact ⟨(wrap64 (b0 - 1)), (b9), (wrap64 (a2 + 1)), fS, fS, fS, H', ⟨by have := e5.out; have := HJ2.out; omega⟩, ⟨bS⟩⟩
        ·rw [if_neg g5] at H
         obtain ⟨g6, g7⟩ := eqF g5
         have H' := aM H
         clear H
         have a6 : 0 ≤ (a2 : Int) := dA
         have a7 : a2 < (l0.length : Int) := dA
         obtain ⟨b1, d0, a3, a5⟩ := at_T50 e1.out a2 a6 a7
         cases d0
         replace a3 := cB HB a3
         replace a5 := cB HB a5
         replace a6 := eq_true a6
         replace a7 := eq_true a7
         go_wp2
         go_roundg kj2
         case measure => have := e5.out; have := HJ2.out; omega
         case rel => exact ⟨(b0), (b9), (wrap64 (a2 + 1)), fS, fS, fS, H', ⟨by have := e5.out; have := HJ2.out; omega⟩, ⟨bS⟩⟩
   ·rw [if_neg c2] at H
    have f5 : decide (a2 < (l0.length : Int)) = false := decide_eq_false c2
    clear c2
    by_cases f4 : b0 = 0
    ·rw [if_pos f4] at H
     have g9 : (b0 == 0) = true := beq_iff_eq.mpr f4
     have h0 : (b0 != 0) = false := bne_eq_false_iff_eq.mpr f4
     clear f4
     by_cases c24 : b9 > 3
     ·rw [if_pos c24] at H
      have h1 : decide (3 < b9) = true := decide_eq_true c24
      clear c24
      obtain rfl := Option.some.inj H
      go_wp2
      go_ret
      exact ⟨eS, bS⟩
     ·rw [if_neg c24] at H
      have h1 : decide (3 < b9) = false := decide_eq_false c24
      clear c24
      obtain rfl := Option.some.inj H
      go_wp2
      go_ret
      exact ⟨eS, bS⟩
    ·rw [if_neg f4] at H
     have g9 : (b0 == 0) = false := beq_eq_false_iff_ne.mpr f4
     have h0 : (b0 != 0) = true := bne_iff_ne.mpr f4
     obtain rfl := Option.some.inj H
     go_wp2
     go_ret
     exact ⟨eS, bS⟩
end Go.Proofs.YtjkgponlahfnjaaGreat.QFnExactRunPage
