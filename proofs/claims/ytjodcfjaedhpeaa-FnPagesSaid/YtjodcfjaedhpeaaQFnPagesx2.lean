-- Made out of the translation by a program of this session (a changed copy of the print). Not trusted: Lean checks it.
import Derived.Test.YtjodcfjaedhpeaaQFnPagesx0
namespace Go.Proofs.Ytjodcfjaedhpeaa.QFnPages
open Go.RowKit Go.Proofs.YtjodcfjaedhpeaaW.PrintWords Go.Proofs.YtjodcfjaedhpeaaW.PrintLast Go.Proofs.YtjodcfjaedhpeaaW.PrintMore
attribute [local go_sem] max2_int min2_int max_two min_two max_three min_three max_four min_four   -- for this text's walks alone
set_option linter.unusedVariables false
set_option linter.unusedSimpArgs false
set_option maxHeartbeats 8000000
set_option maxRecDepth 100000

/-! ### laws_big: function 4 -/
def laws_big.f (l0 : List Int) : Option (Bool) := some (decide ((l0.length : Int) > 1048576))
theorem laws_big.calls (A0 : Option Addr) (c0 : Nat) (l0 : List Int) (r : Bool) (w : World) (hr0 : Kd.C (Kd.int .u8) w A0 l0.length l0) (a2 : l0.length ≤ c0) (h : laws_big.f l0 = some r) :
  Calls Try.prog 4 #[.slice A0 l0.length c0] w fun e w' => e = .returned (.bool r) ∧ Drawn0 w w' := by
 have a3 := aM hr0
 have a5 := aM a2
 clear hr0 a2
 have H := h
 clear h
 unfold laws_big.f at H
 obtain rfl := Option.some.inj H
 go_enter Try.func4, Try.ntmps4
 go_wp2
 go_ret
 exact ⟨fS, dS⟩

/-! ### spec_l06Flat: function 51 -/
mutual
def spec_l06Flat.l0 : Nat → List (S40) → List (S40) → Int → Option ((List (S40)))
 | 0, _, _, _ => none
 | k + 1, x0, x3, x4 => if x4 < (x0.length : Int) then (if (wrap64 (x4 + 1)) ≥ (x0.length : Int) then (spec_l06Flat.j1 k x0 x3 x4 true) else (if 0 ≤ (wrap64 (x4 + 1)) then (if (wrap64 (x4 + 1)) < (x0.length : Int) then (spec_l06Flat.j1 k x0 x3 x4 (((rd_T40 x0 (wrap64 (x4 + 1))).f0).toList != ([114, 101, 112, 101, 97, 116] : List UInt8))) else (none)) else (none))) else (some x3)
def spec_l06Flat.j1 : Nat → List (S40) → List (S40) → Int → Bool → Option ((List (S40)))
 | 0, _, _, _, _ => none
 | k + 1, x0, x3, x4, a2 => if a2 = true then (if 0 ≤ x4 then (if x4 < (x0.length : Int) then (if x3.length < 5864062014805 then (spec_l06Flat.l0 k x0 (x3 ++ [(⟨(rd_T40 x0 x4).f0, (rd_T40 x0 x4).f1⟩ : S40)]) (wrap64 (x4 + 1))) else (none)) else (none)) else (none)) else (none)
def spec_l06Flat.f : Nat → List (S40) → Option ((List (S40)))
 | 0, _ => none
 | k + 1, l0 => spec_l06Flat.l0 k l0 (([] : List (S40))) 0
end
theorem spec_l06Flat.calls (k : Nat) : ∀ (A0 : Option Addr) (c0 : Nat) (l0 : List (S40)) (r : List (S40)) (w : World) (hr0 : Kd.C k40 w A0 l0.length l0) (d6 : l0.length ≤ c0) (h : spec_l06Flat.f k l0 = some r),
  Calls Try.prog 51 #[.slice A0 l0.length c0] w fun e w' => ∃ v0_ : Value, e = .returned (v0_) ∧ Kd.R k40 40 w' w.heap.size (fun _ => True) v0_ r ∧ Below w.heap.size w w' := by
 induction k using Nat.strongRecOn with
 | _ k ih =>
 intro A0 c0 l0 r w hr0 d6 h
 cases k with
 | zero => exact absurd h (by simp [spec_l06Flat.f])
 | succ k =>
 simp only [spec_l06Flat.f] at h
 have hu40 := Try.underlying40
 have e5 := aM hr0
 have f6 := aM d6
 clear hr0 d6
 have HB := aM (Below.refl w.heap.size w)
 have H : (spec_l06Flat.l0 k l0 (([] : List (S40))) 0) = some r := h
 clear h
 obtain ⟨b9, hy_⟩ : ∃ y_ : List (S40), y_ = (([] : List (S40))) := ⟨_, rfl⟩
 replace H : (spec_l06Flat.l0 k l0 b9 0) = some r := yS
 have Ny101 := aM hy_
 clear hy_
 have H' := aM H
 clear H
 go_enter Try.func51, Try.ntmps51
 go_wp2_with (first | ((with_reducible refine gate_dst (N := 8) rfl ?_); refine Kd.R_lit k40 _ 40 ?hg (N := 8) ?hd (xs := ([] : List (S40))) (inner := []) (ok := fun _ => True) (okp := fun _ => True) ?hr ?hp (fun _ hk => hk) trivial (Below.refl _ _) (Nat.le_refl _) (by simp) ?_; (case hd => rfl); (case hg => rfl); (case hr => first | (go_simp; done) | (go_simp; rfl)); (case hp => exact (Reps.none _ _)); intro f3 w2 d0 hb hg_ hnew_; clear hg_ hnew_; (first | rw [← Ny101.out] at d0 | (simp only [Int.reduceToNat] at d0; rw [← Ny101.out] at d0)); have d1 := aM (Kd.R_lower d0 (below_size bS)); replace HB := hB hb; clear hb d0))
 go_loopg [3, 4] k (fun kq v3 v4 w' => ∃ (a6 : List (S40)) (a2 : Int), v4 = .int .i64 a2 ∧ Aside0 (spec_l06Flat.l0 kq l0 a6 a2 = some r) ∧ Aside0 (kq ≤ k) ∧ Aside0 (Kd.R k40 40 w' w.heap.size (fun _ => True) v3 a6) ∧ Aside0 (Below w.heap.size w w'))
 case atStart => exact ⟨(b9), (0), fS, H', ⟨Nat.le_refl _⟩, ⟨rS d1⟩, ⟨bS⟩⟩
 case round =>
  clear H'
  try clear p2
  obtain ⟨a6, a2, rfl, HA, d5, b1, HB⟩ := hrel
  cases gk with
  | zero => exact absurd HA.out (by simp [spec_l06Flat.l0])
  | succ k1 =>
   have H := HA.out
   clear HA
   simp only [spec_l06Flat.l0] at H
   by_cases c4 : a2 < (l0.length : Int)
   ·rw [if_pos c4] at H
    have d2 : decide (a2 < (l0.length : Int)) = true := decide_eq_true c4
    clear c4
    have e0 := aM H
    clear H
    go_upto_region 5 with (fail)
    go_cut [28] (fun f4 wc => ∃ (kq : Nat) (a8 : Bool), f4 = .bool a8 ∧ Aside0 (spec_l06Flat.j1 kq l0 a6 a2 a8 = some r) ∧ Aside0 (kq ≤ k1) ∧ Aside0 (Kd.R k40 40 wc w.heap.size (fun _ => True) u3 a6) ∧ Aside0 (Below w.heap.size w wc))
    case first =>
     have H := e0.out
     clear e0
     by_cases c6 : (wrap64 (a2 + 1)) ≥ (l0.length : Int)
     ·rw [if_pos c6] at H
      have a7 : decide ((l0.length : Int) ≤ (wrap64 (a2 + 1))) = true := decide_eq_true c6
      clear c6
      (first | rw [a7] | (simp only [i64_w, i32_w]; rw [a7]) | skip)
      have H' := aM H
      clear H
      go_wp2
      go_meet
      case rel => exact ⟨_, (true), fS, H', ⟨by have := d5.out; first | omega | exact Nat.le_refl _⟩, ⟨rS b1⟩, ⟨bS⟩⟩
     ·rw [if_neg c6] at H
      have a7 : decide ((l0.length : Int) ≤ (wrap64 (a2 + 1))) = false := decide_eq_false c6
      clear c6
      (first | rw [a7] | (simp only [i64_w, i32_w]; rw [a7]) | skip)
      obtain ⟨ji7, hji7⟩ : ∃ j_ : Int, (wrap64 (a2 + 1)) = j_ := ⟨_, rfl⟩
      replace H : (if 0 ≤ (ji7) then (if (ji7) < (l0.length : Int) then (spec_l06Flat.j1 k1 l0 a6 a2 (((rd_T40 l0 (ji7)).f0).toList != ([114, 101, 112, 101, 97, 116] : List UInt8))) else (none)) else (none)) = some r := by first | (rw [hji7] at H; exact H) | (simp only [hji7] at H ⊢; exact H)
      (try rw [hji7] at a7)
      have hji7w : (IntKind.i64.wrap (a2 + 1)) = ji7 := (i64_w _).trans hji7
      obtain ⟨e1, H⟩ := iT H
      obtain ⟨e2, H⟩ := iT H
      have H' := aM H
      clear H
      have b2 : 0 ≤ ((ji7) : Int) := dA
      have b6 : (ji7) < (l0.length : Int) := dA
      obtain ⟨e6, e3, a3, a5⟩ := at_T40 e5.out (ji7) b2 b6
      cases e3
      replace a3 := cB HB a3
      replace a5 := cB HB a5
      replace b2 := eq_true b2
      replace b6 := eq_true b6
      go_wp2
      go_meet
      case rel => exact ⟨_, ((((rd_T40 l0 (ji7)).f0).toList != ([114, 101, 112, 101, 97, 116] : List UInt8))), (by first | rfl | (simp; done) | (simp only [← hji7] <;> (first | rfl | simp)) | (simp [*]; done)), H', ⟨by have := d5.out; first | omega | exact Nat.le_refl _⟩, ⟨rS b1⟩, ⟨bS⟩⟩
    case rest =>
     clear e0
     try clear p1
     try clear q1
     try clear hx1
     try clear p2
     try clear c4
     try clear d2
     try clear c5
     try clear c6
     try clear a7
     try clear p6
     try clear c8
     try clear e1
     try clear c9
     try clear e2
     try clear a3
     try clear a5
     try clear b2
     try clear p2
     try clear b6
     obtain ⟨kq, a8, rfl, HA, HJ4, b1, HB⟩ := hcut
     cases kq with
     | zero => exact absurd HA.out (by simp [spec_l06Flat.j1])
     | succ kj4 =>
      have H := HA.out
      clear HA
      simp only [spec_l06Flat.j1] at H
      by_cases c10 : a8 = true
      ·subst c10
       rw [if_pos rfl] at H
       obtain ⟨e7, H⟩ := iT H
       obtain ⟨e8, H⟩ := iT H
       obtain ⟨LMc13, H⟩ := iL H
       obtain ⟨d3, hy_⟩ : ∃ y_ : List (S40), y_ = (a6 ++ [(⟨(rd_T40 l0 a2).f0, (rd_T40 l0 a2).f1⟩ : S40)]) := ⟨_, rfl⟩
       replace H : (spec_l06Flat.l0 kj4 l0 d3 (wrap64 (a2 + 1))) = some r := yS
       have Ny106 := aM hy_
       clear hy_
       have H' := aM H
       clear H
       have b7 : 0 ≤ (a2 : Int) := dA
       have b8 : a2 < (l0.length : Int) := dA
       obtain ⟨e9, e4, a9, b0⟩ := at_T40 e5.out a2 b7 b8
       cases e4
       replace a9 := cB HB a9
       replace b0 := cB HB b0
       replace b7 := eq_true b7
       replace b8 := eq_true b8
       go_wp2_with (first | ((with_reducible refine gate_builtin (b := .append) (xs := #[.tmp 29, .tmp 34]) rfl ?_); at_builtin; refine Kd.R_append k40 (w0 := w) w.heap.size rfl (.tmp 29) (.tmp 34) 71 40 (.agg #[(.string ⟨#[]⟩), (.int .i64 0)]) 24 rfl Try.underlying71 info40 rfl (by decide) (by omega) u3 a6 (⟨(rd_T40 l0 a2).f0, (rd_T40 l0 a2).f1⟩ : S40) [.string ((rd_T40 l0 a2).f0), .int .i64 ((rd_T40 l0 a2).f1)] (fun _ => True) (fun _ => False) rfl rfl ?aP (fun _ hk => hk.elim) ?aF ?aO ?aB ?aS ?aL ?_; (case aP => exact k40_mkM _ _ _ (⟨(rd_T40 l0 a2).f0, (rd_T40 l0 a2).f1⟩ : S40)); (case aB => exact bS); (case aF => exact (fun _ _ => trivial)); (case aO => exact (rS b1)); (case aS => exact (below_size bS)); (case aL => have := LMc13.out; (try dsimp only at this); omega); intro f5 f7 ho hb hg hat; rw [← Ny106.out] at ho; have d4 := aM (ho); replace HB := aM (hb); clear b1; clear ho hb hg hat))
       go_roundg kj4
       case measure => have := d5.out; have := HJ4.out; omega
       case rel => exact ⟨(d3), (wrap64 (a2 + 1)), fS, H', ⟨by have := d5.out; have := HJ4.out; omega⟩, ⟨rS d4⟩, ⟨bS⟩⟩
      ·obtain rfl := Bool.eq_false_iff.mpr c10
       rw [if_neg nF] at H
       exact absurd H (by simp)
   ·rw [if_neg c4] at H
    have d2 : decide (a2 < (l0.length : Int)) = false := decide_eq_false c4
    clear c4
    obtain rfl := Option.some.inj H
    go_wp2
    go_ret
    exact ⟨_, eS, rS b1, bS⟩

/-! ### spec_l01In: function 50 -/
def spec_l01In.f (a0 : Int) (a1 : Int) (a2 : Int) : Option (Bool) := if a0 ≥ a1 then (some (decide (a0 ≤ a2))) else (some false)
theorem spec_l01In.calls (a0 : Int) (a1 : Int) (a2 : Int) (r : Bool) (w : World) (h : spec_l01In.f a0 a1 a2 = some r) :
  Calls Try.prog 50 #[.int .i64 a0, .int .i64 a1, .int .i64 a2] w fun e w' => e = .returned (.bool r) ∧ Drawn0 w w' := by
 have H := h
 clear h
 unfold spec_l01In.f at H
 by_cases c4 : a0 ≥ a1
 ·rw [if_pos c4] at H
  have a3 : decide (a1 ≤ a0) = true := decide_eq_true c4
  clear c4
  obtain rfl := Option.some.inj H
  go_enter Try.func50, Try.ntmps50
  go_wp2
  go_ret
  exact ⟨fS, dS⟩
 ·rw [if_neg c4] at H
  have a3 : decide (a1 ≤ a0) = false := decide_eq_false c4
  clear c4
  obtain rfl := Option.some.inj H
  go_enter Try.func50, Try.ntmps50
  go_wp2
  go_ret
  exact ⟨fS, dS⟩

/-! ### spec_IsName: function 69 -/
def spec_IsName.l0 : Nat → ByteArray → Int → Option (Bool)
 | 0, _, _ => none
 | k + 1, x0, x3 => if x3 < (x0.size : Int) then (if 0 ≤ x3 then (if (bt x0 x3) < 97 then (some false) else (if (bt x0 x3) > 122 then (some false) else (spec_IsName.l0 k x0 (wrap64 (x3 + 1))))) else (none)) else ((spec_l01In.f (x0.size : Int) 1 8).bind fun a2 => (some a2))
def spec_IsName.f (k : Nat) (a0 : ByteArray) : Option (Bool) := spec_IsName.l0 k a0 0
theorem spec_IsName.calls (k : Nat) (a0 : ByteArray) (r : Bool) (w : World) (h : spec_IsName.f k a0 = some r) :
  Calls Try.prog 69 #[.string a0] w fun e w' => e = .returned (.bool r) ∧ Drawn0 w w' := by
 have H := h
 clear h
 unfold spec_IsName.f at H
 have H' := aM H
 clear H
 go_enter Try.func69, Try.ntmps69
 go_wp2
 go_loopg [3] k (fun kq v3 w' => ∃ (a2 : Int), v3 = .int .i64 a2 ∧ Aside0 (spec_IsName.l0 kq a0 a2 = some r) ∧ Aside0 (kq ≤ k) ∧ Drawn0 w w')
 case atStart => exact ⟨(0), fS, H', ⟨Nat.le_refl _⟩, dS⟩
 case round =>
  clear H'
  obtain ⟨a2, rfl, HA, a8, ⟨m1, rfl⟩⟩ := hrel
  cases gk with
  | zero => exact absurd HA.out (by simp [spec_IsName.l0])
  | succ k1 =>
   have H := HA.out
   clear HA
   simp only [spec_IsName.l0] at H
   rcases iD H with ⟨a3, H⟩ | ⟨a3, H⟩
   ·obtain ⟨b0, H⟩ := iT H
    rcases iD H with ⟨a5, H⟩ | ⟨a5, H⟩
    ·obtain rfl := Option.some.inj H
     have p4 : 0 ≤ (a2 : Int) := dA
     have q4 : a2 < (a0.size : Int) := dA
     have a9 := bt_at a0 a2
     replace p4 := eq_true p4
     replace q4 := eq_true q4
     go_wp2
     go_ret
     exact ⟨fS, dS⟩
    ·by_cases c7 : (bt a0 a2) > 122
     ·rw [if_pos c7] at H
      have a6 : decide (122 < (bt a0 a2)) = true := decide_eq_true c7
      clear c7
      obtain rfl := Option.some.inj H
      have p4 : 0 ≤ (a2 : Int) := dA
      have q4 : a2 < (a0.size : Int) := dA
      have a9 := bt_at a0 a2
      replace p4 := eq_true p4
      replace q4 := eq_true q4
      have p6 : 0 ≤ (a2 : Int) := dA
      have q6 : a2 < (a0.size : Int) := dA
      have b1 := bt_at a0 a2
      replace p6 := eq_true p6
      replace q6 := eq_true q6
      go_wp2
      go_ret
      exact ⟨fS, dS⟩
     ·rw [if_neg c7] at H
      have a6 : decide (122 < (bt a0 a2)) = false := decide_eq_false c7
      clear c7
      have H' := aM H
      clear H
      have p4 : 0 ≤ (a2 : Int) := dA
      have q4 : a2 < (a0.size : Int) := dA
      have a9 := bt_at a0 a2
      replace p4 := eq_true p4
      replace q4 := eq_true q4
      have p6 : 0 ≤ (a2 : Int) := dA
      have q6 : a2 < (a0.size : Int) := dA
      have b1 := bt_at a0 a2
      replace p6 := eq_true p6
      replace q6 := eq_true q6
      go_wp2
      go_roundg k1
      case measure => have := a8.out; omega
      case rel => exact ⟨(wrap64 (a2 + 1)), fS, H', ⟨by have := a8.out; omega⟩, dS⟩
   ·replace H := bN H
    obtain ⟨a7, A8, H⟩ := H
    obtain rfl := Option.some.inj H
    go_wp2_with (first | ((with_reducible refine gC 50 ?_); refine cM (some 22) Try.func50 (spec_l01In.calls (a0.size : Int) 1 8 a7 _ A8.out) ?_; rintro e w' ⟨rfl, ⟨nd, rfl⟩⟩; refine ⟨_, rfl, ?_⟩))
    go_ret
    exact ⟨fS, dS⟩

/-! ### spec_TokenOk: function 55 -/
def spec_TokenOk.f (k : Nat) (a2 : ByteArray) (a3 : Int) : Option (Bool) := if a2.toList = ([] : List UInt8) then ((spec_l01In.f a3 (-999) 999).bind fun a5 => (some a5)) else ((spec_IsName.f k a2).bind fun a6 => (if a6 = true then (some (a3 == 0)) else (some false)))
theorem spec_TokenOk.calls (k : Nat) (a2 : ByteArray) (a5 : Int) (r : Bool) (w : World) (h : spec_TokenOk.f k a2 a5 = some r) :
  Calls Try.prog 55 #[.agg #[.string a2, .int .i64 a5]] w fun e w' => e = .returned (.bool r) ∧ Below w.heap.size w w' := by
 have hu40 := Try.underlying40
 have HB := aM (Below.refl w.heap.size w)
 have H := h
 clear h
 unfold spec_TokenOk.f at H
 by_cases c2 : a2.toList = ([] : List UInt8)
 ·rw [if_pos c2] at H
  obtain ⟨a7, a8⟩ := eqT c2
  clear c2
  replace H := bN H
  obtain ⟨a9, A3, H⟩ := H
  obtain rfl := Option.some.inj H
  go_enter Try.func55, Try.ntmps55
  go_wp2_with (first | ((with_reducible refine gD 1 ?_); refine bxE #[.string a2, .int .i64 a5] 40 ?_; intro a6 hg w4 a3 hb; have GE110 := gE hg; replace HB := hB hb; clear hb hg; have hz5 := cz2 a3) | ((with_reducible refine gC 50 ?_); refine cM (some 8) Try.func50 (spec_l01In.calls a5 (-999) 999 a9 _ A3.out) ?_; rintro e w' ⟨rfl, ⟨nd, rfl⟩⟩; refine ⟨_, rfl, ?_⟩))
  go_ret
  exact ⟨eS, bS⟩
 ·rw [if_neg c2] at H
  obtain ⟨a7, a8⟩ := eqF c2
  replace H := bN H
  obtain ⟨b0, A6, H⟩ := H
  by_cases c7 : b0 = true
  ·subst c7
   rw [if_pos rfl] at H
   obtain rfl := Option.some.inj H
   go_enter Try.func55, Try.ntmps55
   go_wp2_with (first | ((with_reducible refine gD 1 ?_); refine bxE #[.string a2, .int .i64 a5] 40 ?_; intro a6 hg w8 a3 hb; have GE110 := gE hg; replace HB := hB hb; clear hb hg; have hz9 := cz2 a3) | ((with_reducible refine gC 69 ?_); refine cM (some 11) Try.func69 (spec_IsName.calls k a2 _ _ A6.out) ?_; rintro e w' ⟨rfl, ⟨nd, rfl⟩⟩; refine ⟨_, rfl, ?_⟩))
   go_ret
   exact ⟨eS, bS⟩
  ·obtain rfl := Bool.eq_false_iff.mpr c7
   rw [if_neg nF] at H
   obtain rfl := Option.some.inj H
   go_enter Try.func55, Try.ntmps55
   go_wp2_with (first | ((with_reducible refine gD 1 ?_); refine bxE #[.string a2, .int .i64 a5] 40 ?_; intro a6 hg b1 a3 hb; have GE110 := gE hg; replace HB := hB hb; clear hb hg; have hz11 := cz2 a3) | ((with_reducible refine gC 69 ?_); refine cM (some 11) Try.func69 (spec_IsName.calls k a2 _ _ A6.out) ?_; rintro e w' ⟨rfl, ⟨nd, rfl⟩⟩; refine ⟨_, rfl, ?_⟩))
   go_ret
   exact ⟨eS, bS⟩

/-! ### spec_BlockDepth: function 78 -/
mutual
def spec_BlockDepth.l0 : Nat → List (S40) → Int → Int → Int → Option (Int)
 | 0, _, _, _, _ => none
 | k + 1, x0, x3, x4, x5 => if x5 < (x0.length : Int) then (if 0 ≤ x5 then ((spec_TokenOk.f k ((rd_T40 x0 x5).f0) ((rd_T40 x0 x5).f1)).bind fun a2 => (if a2 = true then (spec_BlockDepth.j1 k x0 x3 x4 x5 (decide ((x0.length : Int) > 60))) else (spec_BlockDepth.j1 k x0 x3 x4 x5 true))) else (none)) else (if x3 = 0 then (if x4 > 3 then (some (-1)) else (some x4)) else (some (-1)))
def spec_BlockDepth.j1 : Nat → List (S40) → Int → Int → Int → Bool → Option (Int)
 | 0, _, _, _, _, _ => none
 | k + 1, x0, x3, x4, x5, a3 => if a3 = true then (some (-1)) else (if 0 ≤ x5 then (if x5 < (x0.length : Int) then (if ((rd_T40 x0 x5).f0).toList = ([114, 101, 112, 101, 97, 116] : List UInt8) then (none) else (if ((rd_T40 x0 x5).f0).toList = ([101, 110, 100] : List UInt8) then (none) else (spec_BlockDepth.l0 k x0 x3 x4 (wrap64 (x5 + 1))))) else (none)) else (none))
end
def spec_BlockDepth.f (k : Nat) (l0 : List (S40)) : Option (Int) := spec_BlockDepth.l0 k l0 0 0 0
theorem spec_BlockDepth.calls (k : Nat) (A0 : Option Addr) (c0 : Nat) (l0 : List (S40)) (r : Int) (w : World) (hr0 : Kd.C k40 w A0 l0.length l0) (e7 : l0.length ≤ c0) (h : spec_BlockDepth.f k l0 = some r) :
  Calls Try.prog 78 #[.slice A0 l0.length c0] w fun e w' => e = .returned (.int .i64 r) ∧ Below w.heap.size w w' := by
 have hu40 := Try.underlying40
 have e1 := aM hr0
 have f9 := aM e7
 clear hr0 e7
 have HB := aM (Below.refl w.heap.size w)
 have H := h
 clear h
 unfold spec_BlockDepth.f at H
 have H' := aM H
 clear H
 go_enter Try.func78, Try.ntmps78
 go_wp2
 go_loopg [3, 4, 5] k (fun kq v3 v4 v5 w' => ∃ (a6 : Int) (a7 : Int) (a2 : Int), v3 = .int .i64 a6 ∧ v4 = .int .i64 a7 ∧ v5 = .int .i64 a2 ∧ Aside0 (spec_BlockDepth.l0 kq l0 a6 a7 a2 = some r) ∧ Aside0 (kq ≤ k) ∧ Aside0 (Below w.heap.size w w'))
 case atStart => exact ⟨(0), (0), (0), fS, fS, fS, H', ⟨Nat.le_refl _⟩, ⟨bS⟩⟩
 case round =>
  clear H'
  obtain ⟨a6, a7, a2, rfl, rfl, rfl, HA, e0, HB⟩ := hrel
  cases gk with
  | zero => exact absurd HA.out (by simp [spec_BlockDepth.l0])
  | succ k1 =>
   have H := HA.out
   clear HA
   simp only [spec_BlockDepth.l0] at H
   by_cases c2 : a2 < (l0.length : Int)
   ·rw [if_pos c2] at H
    have d2 : decide (a2 < (l0.length : Int)) = true := decide_eq_true c2
    clear c2
    have e2 := aM H
    clear H
    go_upto_region 6 with (fail)
    go_cut [22] (fun f8 wc => ∃ (kq : Nat) (b0 : Bool), f8 = .bool b0 ∧ Aside0 (spec_BlockDepth.j1 kq l0 a6 a7 a2 b0 = some r) ∧ Aside0 (kq ≤ k1) ∧ Aside0 (Below w.heap.size w wc))
    case first =>
     have H := e2.out
     clear e2
     obtain ⟨b6, H⟩ := iT H
     (first | rw [b6] | (simp only [i64_w, i32_w]; rw [b6]) | skip)
     replace H := bN H
     obtain ⟨e3, A5, H⟩ := H
     by_cases c6 : e3 = true
     ·subst c6
      rw [if_pos rfl] at H
      have H' := aM H
      clear H
      have a8 : 0 ≤ (a2 : Int) := dA
      have a9 : a2 < (l0.length : Int) := dA
      obtain ⟨d3, b7, a3, a5⟩ := at_T40 e1.out a2 a8 a9
      cases b7
      replace a3 := cB HB a3
      replace a5 := cB HB a5
      replace a8 := eq_true a8
      replace a9 := eq_true a9
      go_wp2_with (first | ((with_reducible refine gC 55 ?_); refine cM (some 16) Try.func55 (spec_TokenOk.calls k1 ((rd_T40 l0 a2).f0) ((rd_T40 l0 a2).f1) _ _ A5.out) ?_; rintro e w7 ⟨rfl, hb⟩; refine ⟨_, rfl, ?_⟩; replace HB := hB hb; (try clear hb)))
      go_meet
      case rel => exact ⟨_, (decide ((l0.length : Int) > 60)), fS, H', ⟨by have := e0.out; first | omega | exact Nat.le_refl _⟩, ⟨bS⟩⟩
     ·obtain rfl := Bool.eq_false_iff.mpr c6
      rw [if_neg nF] at H
      have H' := aM H
      clear H
      have a8 : 0 ≤ (a2 : Int) := dA
      have a9 : a2 < (l0.length : Int) := dA
      obtain ⟨d3, b7, a3, a5⟩ := at_T40 e1.out a2 a8 a9
      cases b7
      replace a3 := cB HB a3
      replace a5 := cB HB a5
      replace a8 := eq_true a8
      replace a9 := eq_true a9
      go_wp2_with (first | ((with_reducible refine gC 55 ?_); refine cM (some 16) Try.func55 (spec_TokenOk.calls k1 ((rd_T40 l0 a2).f0) ((rd_T40 l0 a2).f1) _ _ A5.out) ?_; rintro e w8 ⟨rfl, hb⟩; refine ⟨_, rfl, ?_⟩; replace HB := hB hb; (try clear hb)))
      go_meet
      case rel => exact ⟨_, (true), fS, H', ⟨by have := e0.out; first | omega | exact Nat.le_refl _⟩, ⟨bS⟩⟩
    case rest =>
     clear e2
     try clear p1
     try clear q1
     try clear hx1
     try clear c2
     try clear d2
     try clear p2
     try clear c4
     try clear b6
     try clear c5
     try clear c6
     try clear c7
     try clear a3
     try clear a5
     try clear a8
     try clear a9
     obtain ⟨kq, b0, rfl, HA, HJ2, HB⟩ := hcut
     cases kq with
     | zero => exact absurd HA.out (by simp [spec_BlockDepth.j1])
     | succ kj2 =>
      have H := HA.out
      clear HA
      simp only [spec_BlockDepth.j1] at H
      by_cases c9 : b0 = true
      ·subst c9
       rw [if_pos rfl] at H
       obtain rfl := Option.some.inj H
       go_wp2
       go_ret
       exact ⟨eS, bS⟩
      ·obtain rfl := Bool.eq_false_iff.mpr c9
       rw [if_neg nF] at H
       obtain ⟨e8, H⟩ := iT H
       obtain ⟨e9, H⟩ := iT H
       by_cases e4 : ((rd_T40 l0 a2).f0).toList = ([114, 101, 112, 101, 97, 116] : List UInt8)
       ·rw [if_pos e4] at H
        exact absurd H (by simp)
       ·rw [if_neg e4] at H
        obtain ⟨f3, f4⟩ := eqF e4
        by_cases e5 : ((rd_T40 l0 a2).f0).toList = ([101, 110, 100] : List UInt8)
        ·rw [if_pos e5] at H
         exact absurd H (by simp)
        ·rw [if_neg e5] at H
         obtain ⟨f5, f6⟩ := eqF e5
         have H' := aM H
         clear H
         have b8 : 0 ≤ (a2 : Int) := dA
         have b9 : a2 < (l0.length : Int) := dA
         obtain ⟨f7, e6, b1, b2⟩ := at_T40 e1.out a2 b8 b9
         cases e6
         replace b1 := cB HB b1
         replace b2 := cB HB b2
         replace b8 := eq_true b8
         replace b9 := eq_true b9
         go_wp2
         go_roundg kj2
         case measure => have := e0.out; have := HJ2.out; omega
         case rel => exact ⟨(a6), (a7), (wrap64 (a2 + 1)), fS, fS, fS, H', ⟨by have := e0.out; have := HJ2.out; omega⟩, ⟨bS⟩⟩
   ·rw [if_neg c2] at H
    have d2 : decide (a2 < (l0.length : Int)) = false := decide_eq_false c2
    clear c2
    by_cases d0 : a6 = 0
    ·rw [if_pos d0] at H
     have d4 : (a6 == 0) = true := beq_iff_eq.mpr d0
     have d5 : (a6 != 0) = false := bne_eq_false_iff_eq.mpr d0
     clear d0
     by_cases d1 : a7 > 3
     ·rw [if_pos d1] at H
      have d6 : decide (3 < a7) = true := decide_eq_true d1
      clear d1
      obtain rfl := Option.some.inj H
      go_wp2
      go_ret
      exact ⟨eS, bS⟩
     ·rw [if_neg d1] at H
      have d6 : decide (3 < a7) = false := decide_eq_false d1
      clear d1
      obtain rfl := Option.some.inj H
      go_wp2
      go_ret
      exact ⟨eS, bS⟩
    ·rw [if_neg d0] at H
     have d4 : (a6 == 0) = false := beq_eq_false_iff_ne.mpr d0
     have d5 : (a6 != 0) = true := bne_iff_ne.mpr d0
     obtain rfl := Option.some.inj H
     go_wp2
     go_ret
     exact ⟨eS, bS⟩

/-! ### spec_BlocksOk: function 65 -/
def spec_BlocksOk.f (k : Nat) (l0 : List (S40)) : Option (Bool) := (spec_BlockDepth.f k l0).bind fun a2 => (some (decide (a2 ≥ 0)))
theorem spec_BlocksOk.calls (k : Nat) (A0 : Option Addr) (c0 : Nat) (l0 : List (S40)) (r : Bool) (w : World) (hr0 : Kd.C k40 w A0 l0.length l0) (a3 : l0.length ≤ c0) (h : spec_BlocksOk.f k l0 = some r) :
  Calls Try.prog 65 #[.slice A0 l0.length c0] w fun e w' => e = .returned (.bool r) ∧ Below w.heap.size w w' := by
 have a5 := aM hr0
 have a6 := aM a3
 clear hr0 a3
 have HB := aM (Below.refl w.heap.size w)
 have H := h
 clear h
 unfold spec_BlocksOk.f at H
 replace H := bN H
 obtain ⟨a2, A2, H⟩ := H
 obtain rfl := Option.some.inj H
 go_enter Try.func65, Try.ntmps65
 go_wp2_with (first | ((with_reducible refine gC 78 ?_); refine cL (some 4) Try.func78 #[.slice A0 l0.length c0] ?_; (with_reducible refine (spec_BlockDepth.calls k _ _ l0 a2 _ ?side1 ?side2 A2.out).mono ?_); (case side1 => exact cS a5.out); (case side2 => exact a6.out); rintro e w3 ⟨rfl, hb⟩; refine ⟨_, rfl, ?_⟩; replace HB := hB hb; (try clear hb)))
 go_ret
 exact ⟨eS, bS⟩

/-! ### spec_FlatLength: function 49 -/
def spec_FlatLength.f (k : Nat) (l0 : List (S40)) : Option (Int) := (spec_BlocksOk.f k l0).bind fun a2 => (if a2 = true then ((spec_l06Flat.f k l0).bind fun a3 => (some (a3.length : Int))) else (some (-1)))
theorem spec_FlatLength.lf0 {p : Prop} (h : p := by
 go_enter Try.func49, Try.ntmps49
 go_wp2_with (first | ((with_reducible refine gC 65 ?_); refine cL (some 4) Try.func65 #[.slice A0 l0.length c0] ?_; (with_reducible refine (spec_BlocksOk.calls k _ _ l0 _ _ ?side1 ?side2 A2.out).mono ?_); (case side1 => exact cS a6.out); (case side2 => exact a7.out); rintro e w5 ⟨rfl, hb⟩; refine ⟨_, rfl, ?_⟩; replace HB := hB hb; (try clear hb)) | ((with_reducible refine gC 51 ?_); refine cM (some 7) Try.func51 (spec_l06Flat.calls k _ _ l0 a3 _ (cC a6 HB) a7.out A4.out) ?_; rintro e w6 ⟨b0, rfl, a8, hb⟩; refine ⟨_, rfl, ?_⟩; have a2 := aM (Kd.R_lower a8 (below_size bS)); replace HB := hB hb; (try clear hb a8); obtain ⟨b2, b6, b1⟩ := Kd.R_slice a2.out; subst b1))
 go_ret
 exact ⟨eS, bS⟩) : p := h
theorem spec_FlatLength.calls (k : Nat) (A0 : Option Addr) (c0 : Nat) (l0 : List (S40)) (r : Int) (w : World) (hr0 : Kd.C k40 w A0 l0.length l0) (a9 : l0.length ≤ c0) (h : spec_FlatLength.f k l0 = some r) :
  Calls Try.prog 49 #[.slice A0 l0.length c0] w fun e w' => e = .returned (.int .i64 r) ∧ Below w.heap.size w w' := by
 have a6 := aM hr0
 have a7 := aM a9
 clear hr0 a9
 have HB := aM (Below.refl w.heap.size w)
 have H := h
 clear h
 unfold spec_FlatLength.f at H
 replace H := bN H
 obtain ⟨a5, A2, H⟩ := H
 by_cases c3 : a5 = true
 ·subst c3
  rw [if_pos rfl] at H
  replace H := bN H
  obtain ⟨a3, A4, H⟩ := H
  obtain rfl := Option.some.inj H
  exact spec_FlatLength.lf0
 ·obtain rfl := Bool.eq_false_iff.mpr c3
  rw [if_neg nF] at H
  obtain rfl := Option.some.inj H
  exact spec_FlatLength.lf0

/-! ### spec_FlattenBlocks: function 41 -/
def spec_FlattenBlocks.f (k : Nat) (l0 : List (S40)) : Option ((List (S40)) × Bool) := (spec_FlatLength.f k l0).bind fun a2 => ((spec_l01In.f a2 0 200).bind fun a3 => (if a3 = true then ((spec_l06Flat.f k l0).bind fun a5 => (some (a5, true))) else (some ((([] : List (S40))), false))))
theorem spec_FlattenBlocks.calls (k : Nat) (A0 : Option Addr) (c0 : Nat) (l0 : List (S40)) (r1 : List (S40)) (r2 : Bool) (w : World) (hr0 : Kd.C k40 w A0 l0.length l0) (b2 : l0.length ≤ c0) (h : spec_FlattenBlocks.f k l0 = some (r1, r2)) :
  Calls Try.prog 41 #[.slice A0 l0.length c0] w fun e w' => ∃ v0_ : Value, e = .returned (.tuple #[v0_, .bool r2]) ∧ Kd.R k40 40 w' w.heap.size (fun _ => True) v0_ r1 ∧ Below w.heap.size w w' := by
 have a7 := aM hr0
 have a8 := aM b2
 clear hr0 b2
 have HB := aM (Below.refl w.heap.size w)
 have H := h
 clear h
 unfold spec_FlattenBlocks.f at H
 replace H := bN H
 obtain ⟨a3, A2, H⟩ := H
 replace H := bN H
 obtain ⟨a9, A3, H⟩ := H
 by_cases c4 : a9 = true
 ·subst c4
  rw [if_pos rfl] at H
  replace H := bN H
  obtain ⟨b0, A5, H⟩ := H
  obtain ⟨rfl, rfl⟩ := sI2 H
  go_enter Try.func41, Try.ntmps41
  go_wp2_with (first | ((with_reducible refine gC 49 ?_); refine cL (some 6) Try.func49 #[.slice A0 l0.length c0] ?_; (with_reducible refine (spec_FlatLength.calls k _ _ l0 a3 _ ?side1 ?side2 A2.out).mono ?_); (case side1 => exact cS a7.out); (case side2 => exact a8.out); rintro e w6 ⟨rfl, hb⟩; refine ⟨_, rfl, ?_⟩; replace HB := hB hb; (try clear hb)) | ((with_reducible refine gC 50 ?_); refine cM (some 8) Try.func50 (spec_l01In.calls a3 0 200 _ _ A3.out) ?_; rintro e w' ⟨rfl, ⟨nd, rfl⟩⟩; refine ⟨_, rfl, ?_⟩) | ((with_reducible refine gC 51 ?_); refine cM (some 12) Try.func51 (spec_l06Flat.calls k _ _ l0 b0 _ (cS (Kd.C_below a7.out bS)) a8.out A5.out) ?_; rintro e w7 ⟨b7, rfl, b6, hb⟩; refine ⟨_, rfl, ?_⟩; have a5 := aM (Kd.R_lower b6 (below_size bS)); replace HB := hB hb; (try clear hb b6)))
  go_ret2
  exact ⟨_, eS, rS a5, bS⟩
 ·obtain rfl := Bool.eq_false_iff.mpr c4
  rw [if_neg nF] at H
  obtain ⟨b1, hy_⟩ : ∃ y_ : List (S40), y_ = (([] : List (S40))) := ⟨_, rfl⟩
  replace H : (some (b1, false)) = some (r1, r2) := yS
  have Ny126 := aM hy_
  clear hy_
  obtain ⟨rfl, rfl⟩ := sI2 H
  go_enter Try.func41, Try.ntmps41
  go_wp2_with (first | ((with_reducible refine gC 49 ?_); refine cL (some 6) Try.func49 #[.slice A0 l0.length c0] ?_; (with_reducible refine (spec_FlatLength.calls k _ _ l0 a3 _ ?side1 ?side2 A2.out).mono ?_); (case side1 => exact cS a7.out); (case side2 => exact a8.out); rintro e w8 ⟨rfl, hb⟩; refine ⟨_, rfl, ?_⟩; replace HB := hB hb; (try clear hb)) | ((with_reducible refine gC 50 ?_); refine cM (some 8) Try.func50 (spec_l01In.calls a3 0 200 _ _ A3.out) ?_; rintro e w' ⟨rfl, ⟨nd, rfl⟩⟩; refine ⟨_, rfl, ?_⟩) | ((with_reducible refine gate_dst (N := 10) rfl ?_); refine Kd.R_lit k40 _ 40 ?hg (N := 10) ?hd (xs := ([] : List (S40))) (inner := []) (ok := fun _ => True) (okp := fun _ => True) ?hr ?hp (fun _ hk => hk) trivial (Below.refl _ _) (Nat.le_refl _) (by simp) ?_; (case hd => rfl); (case hg => rfl); (case hr => first | (go_simp; done) | (go_simp; rfl)); (case hp => exact (Reps.none _ _)); intro b8 w9 a2 hb hg_ hnew_; clear hg_ hnew_; (first | rw [← Ny126.out] at a2 | (simp only [Int.reduceToNat] at a2; rw [← Ny126.out] at a2)); have a6 := aM (Kd.R_lower a2 (below_size bS)); replace HB := hB hb; clear hb a2))
  go_ret2
  exact ⟨_, eS, rS a6, bS⟩

/-! ### spec_Identity: function 52 -/
def spec_Identity.f  : Option (Int × Int × Int × Int) := some (0, 1, 0, 0)
theorem spec_Identity.calls  (r1 : Int) (r2 : Int) (r3 : Int) (r4 : Int) (w : World) (h : spec_Identity.f  = some (r1, r2, r3, r4)) :
  Calls Try.prog 52 #[] w fun e w' => e = .returned (.agg #[.int .i64 r1, .int .i64 r2, .int .i64 r3, .int .i64 r4]) ∧ Below w.heap.size w w' := by
 have hu26 := Try.underlying26
 have HB := aM (Below.refl w.heap.size w)
 have H := h
 clear h
 unfold spec_Identity.f at H
 obtain ⟨rfl, rfl, rfl, rfl⟩ := sI4 H
 go_enter Try.func52, Try.ntmps52
 go_wp2_with (first | ((with_reducible refine gD 0 ?_); refine bxE #[.int .i64 0, .int .i64 0, .int .i64 0, .int .i64 0] 26 ?_; intro a2 hg w1 a3 hb; have GE129 := gE hg; replace HB := hB hb; clear hb hg; have hz2 := cz4 a3))
 refine bodyPost_ret (results_cell_row rfl _ _ a2 26 #[.int .i64 0, .int .i64 1, .int .i64 0, .int .i64 0] (0, 0) _ rfl kS Try.underlying26 rfl (by kernel_rfl)) rfl ?_
 exact ⟨eS, bS⟩

/-! ### spec_l07Full: function 53 -/
def spec_l07Full.f  : Option (Int × Int × Int × Int) := some (0, 0, 32, 32)
theorem spec_l07Full.calls  (r1 : Int) (r2 : Int) (r3 : Int) (r4 : Int) (w : World) (h : spec_l07Full.f  = some (r1, r2, r3, r4)) :
  Calls Try.prog 53 #[] w fun e w' => e = .returned (.agg #[.int .i64 r1, .int .i64 r2, .int .i64 r3, .int .i64 r4]) ∧ Below w.heap.size w w' := by
 have hu29 := Try.underlying29
 have HB := aM (Below.refl w.heap.size w)
 have H := h
 clear h
 unfold spec_l07Full.f at H
 obtain ⟨rfl, rfl, rfl, rfl⟩ := sI4 H
 go_enter Try.func53, Try.ntmps53
 go_wp2_with (first | ((with_reducible refine gD 0 ?_); refine bxE #[.int .i64 0, .int .i64 0, .int .i64 0, .int .i64 0] 29 ?_; intro a2 hg w1 a3 hb; have GE130 := gE hg; replace HB := hB hb; clear hb hg; have hz2 := cz4 a3))
 refine bodyPost_ret (results_cell_row rfl _ _ a2 29 #[.int .i64 0, .int .i64 0, .int .i64 32, .int .i64 32] (0, 0) _ rfl kS Try.underlying29 rfl (by kernel_rfl)) rfl ?_
 exact ⟨eS, bS⟩

/-! ### spec_NewPage: function 42 -/
def spec_NewPage.f  : Option (List Int × Int × Int × Int × Int × (List (S80)) × Int × Int × Int × Int × Int × (List (S31)) × (List (S60))) := (spec_Identity.f).bind fun a2 => ((spec_l07Full.f).bind fun a3 => (some (([] : List Int), a2.1, a2.2.1, a2.2.2.1, a2.2.2.2, ([] : List (S80)), 0, a3.1, a3.2.1, a3.2.2.1, a3.2.2.2, ([] : List (S31)), ([] : List (S60)))))
theorem spec_NewPage.calls  (r1 : List Int) (r2 : Int) (r3 : Int) (r4 : Int) (r5 : Int) (r6 : List (S80)) (r7 : Int) (r8 : Int) (r9 : Int) (b6 : Int) (b7 : Int) (b8 : List (S31)) (b9 : List (S60)) (w : World) (h : spec_NewPage.f  = some (r1, r2, r3, r4, r5, r6, r7, r8, r9, b6, b7, b8, b9)) :
  Calls Try.prog 42 #[] w fun e w' => ∃ v0_ v5_ v11_ v12_ : Value, e = .returned (.agg #[v0_, .int .i64 r2, .int .i64 r3, .int .i64 r4, .int .i64 r5, v5_, .int .i64 r7, .int .i64 r8, .int .i64 r9, .int .i64 b6, .int .i64 b7, v11_, v12_]) ∧ Kd.R (Kd.int .i64) 3 w' w.heap.size (fun _ => True) v0_ r1 ∧ Kd.R k80 80 w' w.heap.size (fun _ => True) v5_ r6 ∧ Kd.S k31 31 w' w.heap.size (fun k_ => some k_ ≠ (v0_ : Value).ownBlock ∧ some k_ ≠ (v5_ : Value).ownBlock) v11_ b8 ∧ Kd.S k60 60 w' w.heap.size (fun k_ => some k_ ≠ (v5_ : Value).ownBlock) v12_ b9 ∧ Below w.heap.size w w' := by
 have hu35 := Try.underlying35
 have hu31 := Try.underlying31
 have HB := aM (Below.refl w.heap.size w)
 have H := h
 clear h
 unfold spec_NewPage.f at H
 replace H := bN H
 obtain ⟨⟨a5, a6, a7, a8⟩, A1, H⟩ := H
 replace H := bN H
 obtain ⟨⟨a9, b0, b1, b2⟩, A2, H⟩ := H
 simp only [Option.some.injEq, Prod.mk.injEq] at H
 obtain ⟨rfl, rfl, rfl, rfl, rfl, rfl, rfl, rfl, rfl, rfl, rfl, rfl, rfl⟩ := H
 go_enter Try.func42, Try.ntmps42
 go_wp2_with (first | ((with_reducible refine gD 0 ?_); refine bxE #[.slice none 0 0, .int .i64 0, .int .i64 0, .int .i64 0, .int .i64 0, .slice none 0 0, .int .i64 0, .int .i64 0, .int .i64 0, .int .i64 0, .int .i64 0, .slice none 0 0, .slice none 0 0] 35 ?_; intro a2 hg w3 a3 hb; have GE131 := gE hg; replace HB := hB hb; clear hb hg) | ((with_reducible refine gC 52 ?_); refine cM (some 1) Try.func52 (spec_Identity.calls  a5 a6 a7 a8 _ A1.out) ?_; rintro e w4 ⟨rfl, hb⟩; refine ⟨_, rfl, ?_⟩; replace a3 := kB_ a2 hb; replace HB := hB hb; (try clear hb)) | ((with_reducible refine gC 53 ?_); refine cM (some 2) Try.func53 (spec_l07Full.calls  a9 b0 b1 b2 _ A2.out) ?_; rintro e w5 ⟨rfl, hb⟩; refine ⟨_, rfl, ?_⟩; replace a3 := kB_ a2 hb; replace HB := hB hb; (try clear hb); have hz6 := cz13 a3))
 refine bodyPost_ret (results_cell_row rfl _ _ a2 35 #[.slice none 0 0, .int .i64 a5, .int .i64 a6, .int .i64 a7, .int .i64 a8, .slice none 0 0, .int .i64 0, .int .i64 a9, .int .i64 b0, .int .i64 b1, .int .i64 b2, .slice none 0 0, .slice none 0 0] (0, 0) _ rfl kS Try.underlying35 rfl (by kernel_rfl)) rfl ?_
 exact ⟨_, _, _, _, eS, by first | exact Kd.R_nil _ _ _ _ _ | exact Kd.N_nil _ _ _ _ _ | exact Kd.V_nil _ _ _ _ _ | exact Kd.Q_nil _ _ _ _ _ | exact Kd.S_nil _ _ _ _ _, by first | exact Kd.R_nil _ _ _ _ _ | exact Kd.N_nil _ _ _ _ _ | exact Kd.V_nil _ _ _ _ _ | exact Kd.Q_nil _ _ _ _ _ | exact Kd.S_nil _ _ _ _ _, by first | exact Kd.S_nil _ _ _ _ _ | exact Kd.N_nil _ _ _ _ _ | exact Kd.V_nil _ _ _ _ _ | exact Kd.Q_nil _ _ _ _ _ | exact Kd.R_nil _ _ _ _ _, by first | exact Kd.S_nil _ _ _ _ _ | exact Kd.N_nil _ _ _ _ _ | exact Kd.V_nil _ _ _ _ _ | exact Kd.Q_nil _ _ _ _ _ | exact Kd.R_nil _ _ _ _ _, bS⟩

/-! ### spec_StackOk: function 73 -/
def spec_StackOk.l0 : Nat → List Int → Int → Option (Bool)
 | 0, _, _ => none
 | k + 1, x0, x3 => if x3 < (x0.length : Int) then (if 0 ≤ x3 then ((spec_l01In.f (rd x0 x3) (-9999) 9999).bind fun a2 => (if a2 = true then (spec_StackOk.l0 k x0 (wrap64 (x3 + 1))) else (some false))) else (none)) else (some (decide ((x0.length : Int) ≤ 12)))
def spec_StackOk.f (k : Nat) (l0 : List Int) : Option (Bool) := spec_StackOk.l0 k l0 0
theorem spec_StackOk.calls (k : Nat) (A0 : Option Addr) (c0 : Nat) (l0 : List Int) (r : Bool) (w : World) (hr0 : Kd.C (Kd.int .i64) w A0 l0.length l0) (b1 : l0.length ≤ c0) (h : spec_StackOk.f k l0 = some r) :
  Calls Try.prog 73 #[.slice A0 l0.length c0] w fun e w' => e = .returned (.bool r) ∧ Drawn0 w w' := by
 have b2 := aM hr0
 have b8 := aM b1
 clear hr0 b1
 have H := h
 clear h
 unfold spec_StackOk.f at H
 have H' := aM H
 clear H
 go_enter Try.func73, Try.ntmps73
 go_wp2
 go_loopg [3] k (fun kq v3 w' => ∃ (a2 : Int), v3 = .int .i64 a2 ∧ Aside0 (spec_StackOk.l0 kq l0 a2 = some r) ∧ Aside0 (kq ≤ k) ∧ Drawn0 w w')
 case atStart => exact ⟨(0), fS, H', ⟨Nat.le_refl _⟩, dS⟩
 case round =>
  clear H'
  obtain ⟨a2, rfl, HA, b6, ⟨m1, rfl⟩⟩ := hrel
  cases gk with
  | zero => exact absurd HA.out (by simp [spec_StackOk.l0])
  | succ k1 =>
   have H := HA.out
   clear HA
   simp only [spec_StackOk.l0] at H
   rcases iD H with ⟨a9, H⟩ | ⟨a9, H⟩
   ·obtain ⟨b7, H⟩ := iT H
    replace H := bN H
    obtain ⟨b0, A4, H⟩ := H
    by_cases c5 : b0 = true
    ·subst c5
     rw [if_pos rfl] at H
     have H' := aM H
     clear H
     have a3 : 0 ≤ (a2 : Int) := dA
     have a5 : a2 < (l0.length : Int) := dA
     obtain ⟨a8, a7, a6⟩ := Kd.at_int b2.out a2 a3 a5
     cases a7
     replace a3 := eq_true a3
     replace a5 := eq_true a5
     go_wp2_with (first | ((with_reducible refine gC 50 ?_); refine cM (some 14) Try.func50 (spec_l01In.calls (rd l0 a2) (-9999) 9999 _ _ A4.out) ?_; rintro e w' ⟨rfl, ⟨nd, rfl⟩⟩; refine ⟨_, rfl, ?_⟩))
     go_roundg k1
     case measure => have := b6.out; omega
     case rel => exact ⟨(wrap64 (a2 + 1)), fS, H', ⟨by have := b6.out; omega⟩, dS⟩
    ·obtain rfl := Bool.eq_false_iff.mpr c5
     rw [if_neg nF] at H
     obtain rfl := Option.some.inj H
     have a3 : 0 ≤ (a2 : Int) := dA
     have a5 : a2 < (l0.length : Int) := dA
     obtain ⟨a8, a7, a6⟩ := Kd.at_int b2.out a2 a3 a5
     cases a7
     replace a3 := eq_true a3
     replace a5 := eq_true a5
     go_wp2_with (first | ((with_reducible refine gC 50 ?_); refine cM (some 14) Try.func50 (spec_l01In.calls (rd l0 a2) (-9999) 9999 _ _ A4.out) ?_; rintro e w' ⟨rfl, ⟨nd, rfl⟩⟩; refine ⟨_, rfl, ?_⟩))
     go_ret
     exact ⟨fS, dS⟩
   ·obtain rfl := Option.some.inj H
    go_wp2
    go_ret
    exact ⟨fS, dS⟩

/-! ### spec_l02In: function 83 -/
def spec_l02In.f (a0 : Int) : Option (Bool) := (spec_l01In.f a0 (-200) 200).bind fun a2 => (some a2)
theorem spec_l02In.calls (a0 : Int) (r : Bool) (w : World) (h : spec_l02In.f a0 = some r) :
  Calls Try.prog 83 #[.int .i64 a0] w fun e w' => e = .returned (.bool r) ∧ Drawn0 w w' := by
 have H := h
 clear h
 unfold spec_l02In.f at H
 replace H := bN H
 obtain ⟨a2, A2, H⟩ := H
 obtain rfl := Option.some.inj H
 go_enter Try.func83, Try.ntmps83
 go_wp2_with (first | ((with_reducible refine gC 50 ?_); refine cM (some 4) Try.func50 (spec_l01In.calls a0 (-200) 200 a2 _ A2.out) ?_; rintro e w' ⟨rfl, ⟨nd, rfl⟩⟩; refine ⟨_, rfl, ?_⟩))
 go_ret
 exact ⟨fS, dS⟩

end Go.Proofs.Ytjodcfjaedhpeaa.QFnPages
