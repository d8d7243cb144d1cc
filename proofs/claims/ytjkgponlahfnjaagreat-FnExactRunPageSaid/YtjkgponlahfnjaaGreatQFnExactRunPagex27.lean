/- Walks of functions of the program: each answers what its plain function tells, for every input at which that is told. -/
import Derived.Test.YtjkgponlahfnjaaGreatQFnExactRunPagex0
import Derived.Test.YtjkgponlahfnjaaGreatQFnExactRunPagex23
import Derived.Test.YtjkgponlahfnjaaGreatQFnExactRunPagex16
import Derived.Test.YtjkgponlahfnjaaGreatQFnExactRunPagex17
import Derived.Test.YtjkgponlahfnjaaGreatQFnExactRunPagex18
import Derived.Test.YtjkgponlahfnjaaGreatQFnExactRunPagex20
import Derived.Test.YtjkgponlahfnjaaGreatQFnExactRunPagex21
import Derived.Test.YtjkgponlahfnjaaGreatQFnExactRunPagex22
import Derived.Test.YtjkgponlahfnjaaGreatQFnExactRunPagex24
import Derived.Test.YtjkgponlahfnjaaGreatQFnExactRunPagex26
namespace Go.Proofs.YtjkgponlahfnjaaGreat.QFnExactRunPage
open Go.RowKit Go.Proofs.YtjkgponlahfnjaaGreatW.PrintWords Go.Proofs.YtjkgponlahfnjaaGreatW.PrintLast Go.Proofs.YtjkgponlahfnjaaGreatW.PrintMore
attribute [local go_sem] max2_int min2_int max_two min_two max_three min_three max_four min_four   -- for this text's walks alone
set_option linter.unusedVariables false
set_option linter.unusedSimpArgs false
set_option maxHeartbeats 8000000
set_option maxRecDepth 100000
def impl_FlattenBlocks.f (k : Nat) (l0 : List (S50)) : Option ((List (S50)) × Bool) := (impl_BlocksOk.f k l0).bind fun a3 => (if a3 = true then ((impl_flat.f k l0 0).bind fun a2 => (if (a2.1.length : Int) > 200 then (some (([] : List (S50)), false)) else (some (a2.1, true)))) else (some (([] : List (S50)), false)))
theorem impl_FlattenBlocks.lf0 {p : Prop} (h : p := by
 go_enter Tryz.func56, Tryz.ntmps56
 go_wp2_with (first | ((with_reducible refine gC 107 ?_); refine cL (some 7) Tryz.func107 #[.slice A0 l0.length c0] ?_; (with_reducible refine (impl_BlocksOk.calls k _ _ l0 _ _ ?side1 ?side2 A2.out).mono ?_); (case side1 => exact cS a9.out); (case side2 => exact b0.out); rintro e w6 ⟨rfl, hb⟩; refine ⟨_, rfl, ?_⟩; replace HB := hB hb; (try clear hb)) | ((with_reducible refine gC 108 ?_); refine cM (some 11) Tryz.func108 (impl_flat.calls k _ _ l0 0 a2 a5 _ (cC a9 HB) b0.out A4.out) ?_; rintro e w7 ⟨a6, rfl, a7, hb⟩; refine ⟨_, rfl, ?_⟩; have a3 := aM (Kd.V_lower (Kd.V_mono (ok' := fun k_ => (w.heap.size ≤ k_)) a7 (fun k_ hk_ => (Nat.le_trans (below_size bS) hk_))) (below_size bS)); replace HB := hB hb; (try clear hb a7); obtain ⟨d1, d2, b8⟩ := Kd.V_slice a3.out; subst b8))
 go_ret2
 exact ⟨_, eS, Kd.V_nil _ _ _ _ _, bS⟩) : p := h
theorem impl_FlattenBlocks.calls (k : Nat) (A0 : Option Addr) (c0 : Nat) (l0 : List (S50)) (r1 : List (S50)) (r2 : Bool) (w : World) (hr0 : Kd.C k50 w A0 l0.length l0) (b7 : l0.length ≤ c0) (h : impl_FlattenBlocks.f k l0 = some (r1, r2)) :
  Calls Tryz.prog 56 #[.slice A0 l0.length c0] w fun e w' => ∃ v0_ : Value, e = .returned (.tuple #[v0_, .bool r2]) ∧ Kd.V k50 50 w' w.heap.size (fun k_ => (w.heap.size ≤ k_)) v0_ r1 ∧ Below w.heap.size w w' := by
 have a9 := aM hr0
 have b0 := aM b7
 clear hr0 b7
 have HB := aM (Below.refl w.heap.size w)
 have H := h
 clear h
 unfold impl_FlattenBlocks.f at H
 replace H := bN H
 obtain ⟨a8, A2, H⟩ := H
 by_cases c3 : a8 = true
 ·subst c3
  rw [if_pos rfl] at H
  replace H := bN H
  obtain ⟨⟨a2, a5⟩, A4, H⟩ := H
  by_cases c5 : (a2.length : Int) > 200
  ·rw [if_pos c5] at H
   have b1 : decide (200 < (a2.length : Int)) = true := decide_eq_true c5
   have b2 : decide (200 < a2.length) = true := decide_eq_true (by omega)
   clear c5
   obtain ⟨rfl, rfl⟩ := sI2 H
   exact impl_FlattenBlocks.lf0
  ·rw [if_neg c5] at H
   have b1 : decide (200 < (a2.length : Int)) = false := decide_eq_false c5
   have b2 : decide (200 < a2.length) = false := decide_eq_false (by omega)
   clear c5
   obtain ⟨rfl, rfl⟩ := sI2 H
   go_enter Tryz.func56, Tryz.ntmps56
   go_wp2_with (first | ((with_reducible refine gC 107 ?_); refine cL (some 7) Tryz.func107 #[.slice A0 l0.length c0] ?_; (with_reducible refine (impl_BlocksOk.calls k _ _ l0 _ _ ?side1 ?side2 A2.out).mono ?_); (case side1 => exact cS a9.out); (case side2 => exact b0.out); rintro e w9 ⟨rfl, hb⟩; refine ⟨_, rfl, ?_⟩; replace HB := hB hb; (try clear hb)) | ((with_reducible refine gC 108 ?_); refine cM (some 11) Tryz.func108 (impl_flat.calls k _ _ l0 0 a2 a5 _ (cC a9 HB) b0.out A4.out) ?_; rintro e d3 ⟨a6, rfl, a7, hb⟩; refine ⟨_, rfl, ?_⟩; have a3 := aM (Kd.V_lower (Kd.V_mono (ok' := fun k_ => (w.heap.size ≤ k_)) a7 (fun k_ hk_ => (Nat.le_trans (below_size bS) hk_))) (below_size bS)); replace HB := hB hb; (try clear hb a7); obtain ⟨b9, d0, b6⟩ := Kd.V_slice a3.out; subst b6))
   go_ret2
   exact ⟨_, eS, by (with_reducible repeat (first | apply Kd.V_alloc | apply Kd.V_drewN | apply Kd.V_drew)); exact a3.out, bS⟩
 ·obtain rfl := Bool.eq_false_iff.mpr c3
  rw [if_neg nF] at H
  obtain ⟨rfl, rfl⟩ := sI2 H
  exact impl_FlattenBlocks.lf0
def impl_pageBox.f  : Option (Int × Int × Int × Int) := some (0, 0, 32, 32)
theorem impl_pageBox.calls  (r1 : Int) (r2 : Int) (r3 : Int) (r4 : Int) (w : World) (h : impl_pageBox.f  = some (r1, r2, r3, r4)) :
  Calls Tryz.prog 109 #[] w fun e w' => e = .returned (.agg #[.int .i64 r1, .int .i64 r2, .int .i64 r3, .int .i64 r4]) ∧ Below w.heap.size w w' := by
 have hu40 := Tryz.underlying40
 have HB := aM (Below.refl w.heap.size w)
 have H := h
 clear h
 unfold impl_pageBox.f at H
 obtain ⟨rfl, rfl, rfl, rfl⟩ := sI4 H
 go_enter Tryz.func109, Tryz.ntmps109
 go_wp2_with (first | ((with_reducible refine gD 0 ?_); refine bxE #[.int .i64 0, .int .i64 0, .int .i64 0, .int .i64 0] 40 ?_; intro a2 hg w1 a3 hb; have GE1188 := gE hg; replace HB := hB hb; clear hb hg; have hz2 := cz4 a3))
 refine bodyPost_ret (results_cell_row rfl _ _ a2 40 #[.int .i64 0, .int .i64 0, .int .i64 32, .int .i64 32] (0, 0) _ rfl kS Tryz.underlying40 rfl (by kernel_rfl)) rfl ?_
 exact ⟨eS, bS⟩
def laws_eqToken.f (a2 : ByteArray) (a3 : Int) (a5 : ByteArray) (a6 : Int) : Option (Bool) := if a2.toList = a5.toList then (if a3 = a6 then (some true) else (some false)) else (some false)
theorem laws_eqToken.lf0 {p : Prop} (h : p := by
 go_enter Tryz.func58, Tryz.ntmps58
 go_wp2_with (first | ((with_reducible refine gD 2 ?_); refine bxE #[.string a9, .int .i64 a2] 50 ?_; intro a7 hg d0 a8 hb; have GE1250 := gE hg; replace HB := hB hb; clear hb hg) | ((with_reducible refine gD 3 ?_); refine bxE #[.string b0, .int .i64 a3] 50 ?_; intro b2 hg d1 b1 hb; have GE1251 := gE hg; have a5 := nL_ a7 hg; have a6 := nG_ a7 hg; replace a8 := kB_ a7 hb; replace HB := hB hb; clear hb hg; have hnb12 := nP a5 a6; have hz13 := cz2 a8; have hz14 := cz2 b1))
 go_ret
 exact ⟨eS, bS⟩) : p := h
theorem laws_eqToken.calls (a9 : ByteArray) (a2 : Int) (b0 : ByteArray) (a3 : Int) (r : Bool) (w : World) (h : laws_eqToken.f a9 a2 b0 a3 = some r) :
  Calls Tryz.prog 58 #[.agg #[.string a9, .int .i64 a2], .agg #[.string b0, .int .i64 a3]] w fun e w' => e = .returned (.bool r) ∧ Below w.heap.size w w' := by
 have hu50 := Tryz.underlying50
 have HB := aM (Below.refl w.heap.size w)
 have H := h
 clear h
 unfold laws_eqToken.f at H
 by_cases c3 : a9.toList = b0.toList
 ·rw [if_pos c3] at H
  obtain ⟨b6, b7⟩ := eqT c3
  clear c3
  by_cases c4 : a2 = a3
  ·rw [if_pos c4] at H
   have b8 : (a2 == a3) = true := beq_iff_eq.mpr c4
   have b9 : (a2 != a3) = false := bne_eq_false_iff_eq.mpr c4
   clear c4
   obtain rfl := Option.some.inj H
   exact laws_eqToken.lf0
  ·rw [if_neg c4] at H
   have b8 : (a2 == a3) = false := beq_eq_false_iff_ne.mpr c4
   have b9 : (a2 != a3) = true := bne_iff_ne.mpr c4
   obtain rfl := Option.some.inj H
   exact laws_eqToken.lf0
 ·rw [if_neg c3] at H
  obtain ⟨b6, b7⟩ := eqF c3
  obtain rfl := Option.some.inj H
  exact laws_eqToken.lf0
def laws_eqTokenS.l0 : Nat → List (S50) → List (S50) → Int → Option (Bool)
 | 0, _, _, _ => none
 | k + 1, x0, x1, x5 => if x5 < (x0.length : Int) then (if 0 ≤ x5 then (if x5 < (x1.length : Int) then ((laws_eqToken.f ((rd_T50 x0 x5).f0) ((rd_T50 x0 x5).f1) ((rd_T50 x1 x5).f0) ((rd_T50 x1 x5).f1)).bind fun a2 => (if a2 = true then (laws_eqTokenS.l0 k x0 x1 (wrap64 (x5 + 1))) else (some false))) else (none)) else (none)) else (some true)
def laws_eqTokenS.f (k : Nat) (l0 : List (S50)) (l1 : List (S50)) : Option (Bool) := if (l0.length : Int) = (l1.length : Int) then (laws_eqTokenS.l0 k l0 l1 0) else (some false)
theorem laws_eqTokenS.calls (k : Nat) (A0 : Option Addr) (c0 : Nat) (l0 : List (S50)) (A1 : Option Addr) (c1 : Nat) (l1 : List (S50)) (r : Bool) (w : World) (hr0 : Kd.C k50 w A0 l0.length l0) (d4 : l0.length ≤ c0) (d5 : Kd.C k50 w A1 l1.length l1) (d6 : l1.length ≤ c1) (h : laws_eqTokenS.f k l0 l1 = some r) :
  Calls Tryz.prog 18 #[.slice A0 l0.length c0, .slice A1 l1.length c1] w fun e w' => e = .returned (.bool r) ∧ Below w.heap.size w w' := by
 have hu50 := Tryz.underlying50
 have e0 := aM hr0
 have e6 := aM d4
 clear hr0 d4
 have e1 := aM d5
 have e7 := aM d6
 clear d5 d6
 have HB := aM (Below.refl w.heap.size w)
 have H := h
 clear h
 unfold laws_eqTokenS.f at H
 by_cases c3 : (l0.length : Int) = (l1.length : Int)
 ·rw [if_pos c3] at H
  have b9 : ((l0.length : Int) == (l1.length : Int)) = true := beq_iff_eq.mpr c3
  have d0 : ((l0.length : Int) != (l1.length : Int)) = false := bne_eq_false_iff_eq.mpr c3
  have d1 : (l0.length == l1.length) = true := by first | simpa using c3 | (simp at c3 ⊢; omega)
  clear c3
  have H' := aM H
  clear H
  go_enter Tryz.func18, Tryz.ntmps18
  go_wp2
  go_loopg [5] k (fun kq v5 w' => ∃ (a2 : Int), v5 = .int .i64 a2 ∧ Aside0 (laws_eqTokenS.l0 kq l0 l1 a2 = some r) ∧ Aside0 (kq ≤ k) ∧ Aside0 (Below w.heap.size w w'))
  case atStart => exact ⟨(0), fS, H', ⟨Nat.le_refl _⟩, ⟨bS⟩⟩
  case round =>
   clear H'
   try clear c1
   try clear p2
   try clear c3
   try clear b9
   try clear d0
   try clear d1
   obtain ⟨a2, rfl, HA, e2, HB⟩ := hrel
   cases gk with
   | zero => exact absurd HA.out (by simp [laws_eqTokenS.l0])
   | succ k1 =>
    have H := HA.out
    clear HA
    simp only [laws_eqTokenS.l0] at H
    rcases iD H with ⟨d3, H⟩ | ⟨d3, H⟩
    ·obtain ⟨e3, H⟩ := iT H
     obtain ⟨e4, H⟩ := iT H
     replace H := bN H
     obtain ⟨d2, A7, H⟩ := H
     by_cases c8 : d2 = true
     ·subst c8
      rw [if_pos rfl] at H
      have H' := aM H
      clear H
      try go_wp2
      replace HB := hD HB
      have b0 : 0 ≤ (a2 : Int) := dA
      have b1 : a2 < (l0.length : Int) := dA
      obtain ⟨a8, b7, a3, a5⟩ := at_T50 e0.out a2 b0 b1
      have hw1252_1 := a5
      have hw1252_0 := a3
      cases b7
      replace a3 := cB HB a3
      replace a5 := cB HB a5
      replace b0 := eq_true b0
      replace b1 := eq_true b1
      have b2 : 0 ≤ (a2 : Int) := dA
      have b6 : a2 < (l1.length : Int) := dA
      obtain ⟨a9, b8, a6, a7⟩ := at_T50 e1.out a2 b2 b6
      have hw1253_1 := a7
      have hw1253_0 := a6
      cases b8
      replace a6 := cB HB a6
      replace a7 := cB HB a7
      replace b2 := eq_true b2
      replace b6 := eq_true b6
      refine start_ (n := 10) (S := fun w' => w'.cell? (a8.add ((a2).toNat * 2)) = some (.string ((rd_T50 l0 a2).f0)) ∧ w'.cell? ⟨(a8.add ((a2).toNat * 2)).block, (a8.add ((a2).toNat * 2)).off + 1, none⟩ = some (.int .i64 ((rd_T50 l0 a2).f1)) ∧ w'.cell? (a9.add ((a2).toNat * 2)) = some (.string ((rd_T50 l1 a2).f0)) ∧ w'.cell? ⟨(a9.add ((a2).toNat * 2)).block, (a9.add ((a2).toNat * 2)).off + 1, none⟩ = some (.int .i64 ((rd_T50 l1 a2).f1))) (ds := []) (mB 10 0) (by kernel_rfl) rfl rfl ⟨(cB HB hw1252_0), (cB HB hw1252_1), (cB HB hw1253_0), (cB HB hw1253_1)⟩ (fun hHeld => ?_)
      generalize wr.drew = w9 at HB a3 a5 a6 a7 hHeld ⊢
      refine pU 0 (some 17) (mB 10 1) ?_
      refine pU 1 (some 18) (mB 10 3) ?_
      refine pU 2 (some 19) (mB 10 7) ?_
      refine pU 4 (some 21) (mB 10 23) ?_
      refine pU 5 (some 22) (mB 10 55) ?_
      refine pU 6 (some 23) (mB 10 119) ?_
      refine tK 3 (some 20) (mB 10 127) ?_
      refine tK 7 (some 24) (mB 10 255) ?_
      refine one_ (i := 8) (N := some 25) (mB 10 511) rfl rfl (by kernel_rfl) (by decide) (fun K hK => ?_)
      refine goes_ Tryz.func58 (by kernel_rfl) rfl #[.agg #[.string ((rd_T50 l0 a2).f0), .int .i64 ((rd_T50 l0 a2).f1)], .agg #[.string ((rd_T50 l1 a2).f0), .int .i64 ((rd_T50 l1 a2).f1)]] (by rfl) rfl rfl mA ?_
      with_reducible refine (laws_eqToken.calls ((rd_T50 l0 a2).f0) ((rd_T50 l0 a2).f1) ((rd_T50 l1 a2).f0) ((rd_T50 l1 a2).f1) _ _ A7.out).mono ?_
      rintro e e8 ⟨rfl, hb⟩
      refine ⟨_, rfl, ?_⟩
      replace HB := hB hb
      (try clear hb)
      (try clear e5)
      (try clear hk)
      (try clear hi)
      refine hK.out _ _ ⟨(cB HB hw1252_0), (cB HB hw1252_1), (cB HB hw1253_0), (cB HB hw1253_1)⟩ (fun hHeld => ?_)
      clear hK K
      refine norm_ (a' := ?_) ?_ ?_
      rotate_left
      ·show Act.put _ (some 25) _ = _
       simp only [Act.put, List.setIfInBounds_toArray, List.set_cons_zero, List.set_cons_succ, i64_w, i32_w]
       rfl
      refine pU 9 (some 26) (mB 10 1023) ?_
      refine done_ (by kernel_rfl) ?_
      try go_wp2
      go_roundg k1
      case measure => have := e2.out; omega
      case rel => exact ⟨(wrap64 (a2 + 1)), fS, H', ⟨by have := e2.out; omega⟩, ⟨bS⟩⟩
     ·obtain rfl := Bool.eq_false_iff.mpr c8
      rw [if_neg nF] at H
      obtain rfl := Option.some.inj H
      try go_wp2
      replace HB := hD HB
      have b0 : 0 ≤ (a2 : Int) := dA
      have b1 : a2 < (l0.length : Int) := dA
      obtain ⟨a8, b7, a3, a5⟩ := at_T50 e0.out a2 b0 b1
      have hw1252_1 := a5
      have hw1252_0 := a3
      cases b7
      replace a3 := cB HB a3
      replace a5 := cB HB a5
      replace b0 := eq_true b0
      replace b1 := eq_true b1
      have b2 : 0 ≤ (a2 : Int) := dA
      have b6 : a2 < (l1.length : Int) := dA
      obtain ⟨a9, b8, a6, a7⟩ := at_T50 e1.out a2 b2 b6
      have hw1253_1 := a7
      have hw1253_0 := a6
      cases b8
      replace a6 := cB HB a6
      replace a7 := cB HB a7
      replace b2 := eq_true b2
      replace b6 := eq_true b6
      refine start_ (n := 10) (S := fun w' => w'.cell? (a8.add ((a2).toNat * 2)) = some (.string ((rd_T50 l0 a2).f0)) ∧ w'.cell? ⟨(a8.add ((a2).toNat * 2)).block, (a8.add ((a2).toNat * 2)).off + 1, none⟩ = some (.int .i64 ((rd_T50 l0 a2).f1)) ∧ w'.cell? (a9.add ((a2).toNat * 2)) = some (.string ((rd_T50 l1 a2).f0)) ∧ w'.cell? ⟨(a9.add ((a2).toNat * 2)).block, (a9.add ((a2).toNat * 2)).off + 1, none⟩ = some (.int .i64 ((rd_T50 l1 a2).f1))) (ds := []) (mB 10 0) (by kernel_rfl) rfl rfl ⟨(cB HB hw1252_0), (cB HB hw1252_1), (cB HB hw1253_0), (cB HB hw1253_1)⟩ (fun hHeld => ?_)
      generalize wr.drew = e9 at HB a3 a5 a6 a7 hHeld ⊢
      refine pU 0 (some 17) (mB 10 1) ?_
      refine pU 1 (some 18) (mB 10 3) ?_
      refine pU 2 (some 19) (mB 10 7) ?_
      refine pU 4 (some 21) (mB 10 23) ?_
      refine pU 5 (some 22) (mB 10 55) ?_
      refine pU 6 (some 23) (mB 10 119) ?_
      refine tK 3 (some 20) (mB 10 127) ?_
      refine tK 7 (some 24) (mB 10 255) ?_
      refine one_ (i := 8) (N := some 25) (mB 10 511) rfl rfl (by kernel_rfl) (by decide) (fun K hK => ?_)
      refine goes_ Tryz.func58 (by kernel_rfl) rfl #[.agg #[.string ((rd_T50 l0 a2).f0), .int .i64 ((rd_T50 l0 a2).f1)], .agg #[.string ((rd_T50 l1 a2).f0), .int .i64 ((rd_T50 l1 a2).f1)]] (by rfl) rfl rfl mA ?_
      with_reducible refine (laws_eqToken.calls ((rd_T50 l0 a2).f0) ((rd_T50 l0 a2).f1) ((rd_T50 l1 a2).f0) ((rd_T50 l1 a2).f1) _ _ A7.out).mono ?_
      rintro e f3 ⟨rfl, hb⟩
      refine ⟨_, rfl, ?_⟩
      replace HB := hB hb
      (try clear hb)
      (try clear e5)
      (try clear hk)
      (try clear hi)
      refine hK.out _ _ ⟨(cB HB hw1252_0), (cB HB hw1252_1), (cB HB hw1253_0), (cB HB hw1253_1)⟩ (fun hHeld => ?_)
      clear hK K
      refine norm_ (a' := ?_) ?_ ?_
      rotate_left
      ·show Act.put _ (some 25) _ = _
       simp only [Act.put, List.setIfInBounds_toArray, List.set_cons_zero, List.set_cons_succ, i64_w, i32_w]
       rfl
      refine pU 9 (some 26) (mB 10 1023) ?_
      refine done_ (by kernel_rfl) ?_
      try go_wp2
      go_ret
      exact ⟨eS, bS⟩
    ·obtain rfl := Option.some.inj H
     go_wp2
     go_ret
     exact ⟨eS, bS⟩
 ·rw [if_neg c3] at H
  have b9 : ((l0.length : Int) == (l1.length : Int)) = false := beq_eq_false_iff_ne.mpr c3
  have d0 : ((l0.length : Int) != (l1.length : Int)) = true := bne_iff_ne.mpr c3
  have d1 : (l0.length == l1.length) = false := by first | simpa using c3 | (simp at c3 ⊢; omega)
  obtain rfl := Option.some.inj H
  go_enter Tryz.func18, Tryz.ntmps18
  go_wp2
  go_ret
  exact ⟨eS, bS⟩
def laws_markText.l0 : Nat → Int → ByteArray → Option (ByteArray)
 | 0, _, _ => none
 | k + 1, x0, x3 => if x0 > 0 then ((some (([(wrap64 (48 + (Int.tmod x0 10))) % 256] : List Int) : List Int)).bind fun a2 => (if (strOfNums a2).size + x3.size ≤ 9223372036854775807 then (laws_markText.l0 k (wrap64 (Int.tdiv x0 10)) ((strOfNums a2) ++ x3)) else (none))) else (if 1 + x3.size ≤ 9223372036854775807 then (some ((⟨#[109]⟩ : ByteArray) ++ x3)) else (none))
def laws_markText.f (k : Nat) (a0 : Int) : Option (ByteArray) := if a0 ≤ 0 then (some (⟨#[109, 48]⟩ : ByteArray)) else (laws_markText.l0 k a0 (⟨#[]⟩ : ByteArray))
theorem laws_markText.calls (k : Nat) (a0 : Int) (r : ByteArray) (w : World) (h : laws_markText.f k a0 = some r) :
  Calls Tryz.prog 59 #[.int .i64 a0] w fun e w' => e = .returned (.string r) ∧ Below w.heap.size w w' := by
 have HB := aM (Below.refl w.heap.size w)
 have H := h
 clear h
 unfold laws_markText.f at H
 by_cases c2 : a0 ≤ 0
 ·rw [if_pos c2] at H
  have a7 : decide (a0 ≤ 0) = true := decide_eq_true c2
  clear c2
  obtain rfl := Option.some.inj H
  go_enter Tryz.func59, Tryz.ntmps59
  go_wp2
  go_ret
  exact ⟨eS, bS⟩
 ·rw [if_neg c2] at H
  have a7 : decide (a0 ≤ 0) = false := decide_eq_false c2
  clear c2
  have H' := aM H
  clear H
  go_enter Tryz.func59, Tryz.ntmps59
  go_wp2
  go_loopg [0, 3] k (fun kq v0 v3 w' => ∃ (a2 : Int) (a3 : ByteArray), v0 = .int .i64 a2 ∧ v3 = .string a3 ∧ Aside0 (laws_markText.l0 kq a2 a3 = some r) ∧ Aside0 (kq ≤ k) ∧ Aside0 (Below w.heap.size w w'))
  case atStart => exact ⟨(a0), ((⟨#[]⟩ : ByteArray)), fS, fS, H', ⟨Nat.le_refl _⟩, ⟨bS⟩⟩
  case round =>
   clear H'
   try clear c2
   try clear a7
   try clear p2
   obtain ⟨a2, a3, rfl, rfl, HA, b0, HB⟩ := hrel
   cases gk with
   | zero => exact absurd HA.out (by simp [laws_markText.l0])
   | succ k1 =>
    have H := HA.out
    clear HA
    simp only [laws_markText.l0] at H
    by_cases c3 : a2 > 0
    ·rw [if_pos c3] at H
     have a9 : decide (0 < a2) = true := decide_eq_true c3
     clear c3
     obtain ⟨a5, hy_⟩ : ∃ y_ : List Int, y_ = (([(wrap64 (48 + (Int.tmod a2 10))) % 256] : List Int)) := ⟨_, rfl⟩
     replace H : (if (strOfNums a5).size + a3.size ≤ 9223372036854775807 then (laws_markText.l0 k1 (wrap64 (Int.tdiv a2 10)) ((strOfNums a5) ++ a3)) else (none)) = some r := yS
     have Ny1255 := aM hy_
     clear hy_
     by_cases c4 : (strOfNums a5).size + a3.size ≤ 9223372036854775807
     ·rw [if_pos c4] at H
      have b2 := eq_true c4
      have b6 : decide ((strOfNums a5).size + a3.size ≤ 9223372036854775807) = true := decide_eq_true c4
      try have b7 : (9223372036854775807 < (strOfNums a5).size + a3.size) = False := eq_false (Nat.not_lt.2 c4)
      have H' := aM H
      clear H
      go_wp2_with (first | ((with_reducible refine gate_dst (N := 12) rfl ?_); refine Kd.R_lit (Kd.int .u8) _ 5 ?hg (N := 12) ?hd (xs := ([(wrap64 (48 + (Int.tmod a2 10))) % 256] : List Int)) (inner := [.int .u8 ((wrap64 (48 + (Int.tmod a2 10))) % 256)]) (ok := fun _ => True) (okp := fun _ => True) ?hr ?hp (fun _ hk => hk) trivial (Below.refl _ _) (Nat.le_refl _) (by simp) ?_; (case hd => rfl); (case hg => rfl); (case hr => first | (go_simp; done) | (go_simp; rfl)); (case hp => exact (Reps.one (show Kd.M (Kd.int .u8) _ _ _ ((wrap64 (48 + (Int.tmod a2 10))) % 256) [.int .u8 ((wrap64 (48 + (Int.tmod a2 10))) % 256)] from rfl) (Reps.none _ _))); intro b1 w5 a8 hb hg_ hnew_; clear hg_ hnew_; (first | rw [← Ny1255.out] at a8 | (simp only [Int.reduceToNat] at a8; rw [← Ny1255.out] at a8)); have a6 := aM (Kd.R_lower a8 (below_size bS)); replace HB := hB hb; clear hb a8; have hcv7 := own_string (P := Tryz.prog) Tryz.underlying136 Tryz.underlying5 Tryz.underlying9 (Kd.own_of_R a6.out)))
      go_roundg k1
      case measure => have := b0.out; omega
      case rel => exact ⟨(wrap64 (Int.tdiv a2 10)), ((strOfNums a5) ++ a3), fS, fS, H', ⟨by have := b0.out; omega⟩, ⟨bS⟩⟩
     ·rw [if_neg c4] at H
      exact absurd H (by simp)
    ·rw [if_neg c3] at H
     have a9 : decide (0 < a2) = false := decide_eq_false c3
     clear c3
     by_cases c8 : 1 + a3.size ≤ 9223372036854775807
     ·rw [if_pos c8] at H
      have b8 := eq_true c8
      have b9 : decide (1 + a3.size ≤ 9223372036854775807) = true := decide_eq_true c8
      try have d0 : (9223372036854775807 < 1 + a3.size) = False := eq_false (Nat.not_lt.2 c8)
      obtain rfl := Option.some.inj H
      go_wp2
      go_ret
      exact ⟨eS, bS⟩
     ·rw [if_neg c8] at H
      exact absurd H (by simp)
def laws_markTokenS.l0 : Nat → List (S50) → Int → Int → Option (Int × (List (S50)))
 | 0, _, _, _ => none
 | k + 1, x0, x1, x5 => if x5 < (x0.length : Int) then ((laws_markText.f k x1).bind fun a3 => (if 0 ≤ x5 then ((some (x0.set (x5 : Int).toNat (⟨a3, (rd_T50 x0 x5).f1⟩ : S50) : List (S50))).bind fun a2 => (laws_markTokenS.l0 k (a2.set (x5 : Int).toNat (⟨(rd_T50 a2 x5).f0, wrap64 (x1 + 1)⟩ : S50)) (wrap64 ((wrap64 (x1 + 1)) + 1)) (wrap64 (x5 + 1)))) else (none))) else (some (x1, x0))
def laws_markTokenS.f (k : Nat) (l0 : List (S50)) (a1 : Int) : Option (Int × (List (S50))) := laws_markTokenS.l0 k l0 a1 0
theorem laws_markTokenS.calls (k : Nat) (P0_ : Nat → Prop) (u9000_ : Value) (l0 : List (S50)) (a1 : Int) (r1 : Int) (r2 : List (S50)) (w0 w : World) (hB : Below w0.heap.size w0 w) (e0 : Kd.R k50 50 w w0.heap.size P0_ u9000_ l0) (h : laws_markTokenS.f k l0 a1 = some (r1, r2)) :
  Calls Tryz.prog 19 #[u9000_, .int .i64 a1] w fun e w' => e = .returned (.int .i64 r1) ∧ Kd.R k50 50 w' w0.heap.size (fun k_ => (P0_ k_ ∨ w.heap.size ≤ k_)) u9000_ r2 ∧ Below w0.heap.size w0 w' ∧ Kept w w' (fun k_ => P0_ k_) := by
 have e1 := aM (show Kd.R k50 50 w w0.heap.size (fun k_ => (P0_ k_ ∨ w.heap.size ≤ k_)) u9000_ l0 from Kd.R_mono e0 (fun k_ hk => (.inl hk)))
 have HK := aM (Kept.refl w (fun k_ => P0_ k_))
 have HW0 := aM hB.size
 have HB := aM hB
 clear hB
 have H := h
 clear h
 unfold laws_markTokenS.f at H
 have H' := aM H
 clear H
 go_enter Tryz.func19, Tryz.ntmps19
 go_wp2
 go_loopg [1, 5] k (fun kq v1 v5 w' => ∃ (a3 : List (S50)) (a7 : Int) (a2 : Int), v1 = .int .i64 a7 ∧ v5 = .int .i64 a2 ∧ Aside0 (laws_markTokenS.l0 kq a3 a7 a2 = some (r1, r2)) ∧ Aside0 (kq ≤ k) ∧ Aside0 (Kd.R k50 50 w' w0.heap.size (fun k_ => (P0_ k_ ∨ w.heap.size ≤ k_)) u9000_ a3) ∧ Aside0 (Kept w w' (fun k_ => P0_ k_)) ∧ Aside0 (Below w0.heap.size w0 w'))
 case atStart => exact ⟨(l0), (a1), (0), fS, fS, H', ⟨Nat.le_refl _⟩, ⟨rS e1⟩, ⟨by repeat (first | (with_reducible first | exact HK.out | apply Kept.alloc | apply Kept.drewN | apply Kept.drew) | exact HK.out)⟩, ⟨bS⟩⟩
 case round =>
  clear H'
  try clear c1
  try clear p2
  obtain ⟨a3, a7, a2, rfl, rfl, HA, d0, a5, HK, HB⟩ := hrel
  cases gk with
  | zero => exact absurd HA.out (by simp [laws_markTokenS.l0])
  | succ k1 =>
   have H := HA.out
   clear HA
   simp only [laws_markTokenS.l0] at H
   rcases iD H with ⟨b7, H⟩ | ⟨b7, H⟩
   ·replace H := bN H
    obtain ⟨a8, A4, H⟩ := H
    obtain ⟨e2, H⟩ := iT H
    obtain ⟨a6, hy_⟩ : ∃ y_ : List (S50), y_ = (a3.set (a2 : Int).toNat (⟨a8, (rd_T50 a3 a2).f1⟩ : S50)) := ⟨_, rfl⟩
    replace H : (laws_markTokenS.l0 k1 (a6.set (a2 : Int).toNat (⟨(rd_T50 a6 a2).f0, wrap64 (a7 + 1)⟩ : S50)) (wrap64 ((wrap64 (a7 + 1)) + 1)) (wrap64 (a2 + 1))) = some (r1, r2) := yS
    have Ny1259 := aM hy_
    clear hy_
    obtain ⟨a9, hy_⟩ : ∃ y_ : List (S50), y_ = (a6.set (a2 : Int).toNat (⟨(rd_T50 a6 a2).f0, wrap64 (a7 + 1)⟩ : S50)) := ⟨_, rfl⟩
    replace H : (laws_markTokenS.l0 k1 a9 (wrap64 ((wrap64 (a7 + 1)) + 1)) (wrap64 (a2 + 1))) = some (r1, r2) := yS
    have Ny1260 := aM hy_
    clear hy_
    have H' := aM H
    clear H
    obtain ⟨e6, b6, e3⟩ := Kd.R_slice a5.out
    subst e3
    go_wp2_with (first | ((with_reducible refine gC 59 ?_); refine cM (some 15) Tryz.func59 (laws_markText.calls k1 a7 a8 _ A4.out) ?_; rintro e w9 ⟨rfl, hb⟩; refine ⟨_, rfl, ?_⟩; replace a5 := rB a5 hb; replace HK := aM (Kept.below (S := (fun k_ => P0_ k_)) (by repeat (first | (with_reducible first | exact HK.out | apply Kept.alloc | apply Kept.drewN | apply Kept.drew) | exact HK.out)) hb); replace HB := hB hb; (try clear hb hk); have p6 : 0 ≤ (a2 : Int) := dA; have q6 : (a2 : Int) < ((a3.length : Int) : Int) := dA; obtain ⟨go6, e7, d1, d2, gl6, cl6, HG6⟩ := Kd.R_form a5.out (by omega); (first | cases d1 | (injection d1 with ea_ en_ ec_; (first | subst ea_ | (injection ea_ with ea_; subst ea_)); subst ec_; clear en_)); have GB6 := aM d2; have GG6 := aM HG6; clear d2 gl6 HG6; have HMgo6 := aM (show (P0_ go6 ∨ w.heap.size ≤ go6) from (a5.out.1 _ rfl)); obtain ⟨ce6, hcl6, hM6, hcc6, hfr6⟩ := Kd.R_elem a5.out z50 (a2 : Int) p6 q6; obtain rfl := k50_openM hM6; have d3 : w9.cell? ⟨go6, (a2 : Int).toNat * 2, none⟩ = some (.string ((rd_T50 a3 a2).f0)) := hcc6 0 _ rfl; have d4 : w9.cell? ⟨go6, (a2 : Int).toNat * 2 + 1, none⟩ = some (.int .i64 ((rd_T50 a3 a2).f1)) := hcc6 1 _ rfl; have hf6_0 : w9.frozen? ⟨go6, (a2 : Int).toNat * 2, none⟩ = false := hfr6 0; have hf6_1 : w9.frozen? ⟨go6, (a2 : Int).toNat * 2 + 1, none⟩ = false := hfr6 1; (try clear hM6); clear hcl6 hcc6 hfr6; replace p6 := eq_true p6; replace q6 := eq_true q6; have HX10 := aM (show Kd.R k50 50 w9 w0.heap.size (fun k_ => (P0_ k_ ∨ w.heap.size ≤ k_)) (.slice (some ⟨go6, 0, none⟩) a3.length b6) a3 from (rS a5)); obtain ⟨ce10, hcl10, hM10, hcc10, hfr10⟩ := Kd.R_elem HX10.out z50 (a2 : Int) (dA) (by have h_ : (a2 : Int) < ((a3.length : Int) : Int) := dA; first | exact h_ | (have e_ := (Kd.R_reads' a5.out).1; omega) | simpa using h_); obtain rfl := k50_openM hM10; have HP10 := Kd.R_seg HX10.out (a2 : Int) (dA) (by have h_ : (a2 : Int) < ((a3.length : Int) : Int) := dA; first | exact h_ | (have e_ := (Kd.R_reads' a5.out).1; omega) | simpa using h_) (seg := [.string a8]) (j := 0) hcl10 hcc10 (show 1 ≤ 2 from by decide) (x' := (⟨a8, (rd_T50 a3 a2).f1⟩ : S50)) (k50_mkM _ _ _ (⟨a8, (rd_T50 a3 a2).f1⟩ : S50) ) (fun _ hk => hk); have b1 := hcc10 0 _ rfl; (try simp only [show (k50).sz = 2 from rfl, Nat.mul_one, Nat.add_zero] at b1); have hf10_0 := hfr10 0; (try simp only [show (k50).sz = 2 from rfl, Nat.mul_one, Nat.add_zero] at hf10_0); (try clear hM10); clear hcl10 hcc10 hfr10) | ((with_reducible refine gate_store (t := 9) (p := 17) rfl ?_); refine store_event (t := 9) (p := 17) (v := ?vo_w11) (w1 := (w9.setCell ⟨go6, (a2 : Int).toNat * 2, none⟩ (.string a8))) ?hg ?ho ?hn ?hr ?_; (case ho => rfl); (case hg => rfl); (case hn => rfl); (case hr => first | (go_simp; done) | (go_simp; rfl)); intro b0 hw; have hg : w9.grownBy b0 (some go6) := (by rw [hw]; exact HP10.2); have hp_ : Kd.R k50 50 b0 w0.heap.size (fun k_ => (P0_ k_ ∨ w.heap.size ≤ k_)) (.slice (some ⟨go6, 0, none⟩) a3.length b6) a6 := (by rw [hw, Ny1259.out]; exact HP10.1); clear HP10; replace HB := aM ((by rw [hw]; exact below_set (HB.out) GB6.out : Below w0.heap.size w0 b0)); replace HK := aM (Kept.of_grown (S := (fun k_ => P0_ k_)) hg (by repeat (first | (with_reducible first | exact HK.out | apply Kept.alloc | apply Kept.drewN | apply Kept.drew) | exact HK.out)) (fun k_ e_ => (a5.out.1 k_ e_))); replace a5 := aM (hp_); clear hg hw hp_; have p7 : 0 ≤ (a2 : Int) := dA; have q7 : (a2 : Int) < ((a3.length : Int) : Int) := dA; obtain ⟨ce7, hcl7, hM7, hcc7, hfr7⟩ := Kd.R_elem a5.out z50 (a2 : Int) p7 q7; obtain rfl := k50_openM hM7; have d5 : b0.cell? ⟨go6, (a2 : Int).toNat * 2, none⟩ = some (.string ((rd_T50 a6 a2).f0)) := hcc7 0 _ rfl; have d6 : b0.cell? ⟨go6, (a2 : Int).toNat * 2 + 1, none⟩ = some (.int .i64 ((rd_T50 a6 a2).f1)) := hcc7 1 _ rfl; have hf7_0 : b0.frozen? ⟨go6, (a2 : Int).toNat * 2, none⟩ = false := hfr7 0; have hf7_1 : b0.frozen? ⟨go6, (a2 : Int).toNat * 2 + 1, none⟩ = false := hfr7 1; (try clear hM7); clear hcl7 hcc7 hfr7; replace p7 := eq_true p7; replace q7 := eq_true q7; have HX12 := aM (show Kd.R k50 50 b0 w0.heap.size (fun k_ => (P0_ k_ ∨ w.heap.size ≤ k_)) (.slice (some ⟨go6, 0, none⟩) a3.length b6) a6 from (rS a5)); obtain ⟨ce12, hcl12, hM12, hcc12, hfr12⟩ := Kd.R_elem HX12.out z50 (a2 : Int) (dA) (by have h_ : (a2 : Int) < ((a3.length : Int) : Int) := dA; first | exact h_ | (have e_ := (Kd.R_reads' a5.out).1; omega) | simpa using h_); obtain rfl := k50_openM hM12; have HP12 := Kd.R_seg HX12.out (a2 : Int) (dA) (by have h_ : (a2 : Int) < ((a3.length : Int) : Int) := dA; first | exact h_ | (have e_ := (Kd.R_reads' a5.out).1; omega) | simpa using h_) (seg := [.int .i64 (wrap64 (a7 + 1))]) (j := 1) hcl12 hcc12 (show 2 ≤ 2 from by decide) (x' := (⟨(rd_T50 a6 a2).f0, wrap64 (a7 + 1)⟩ : S50)) (k50_mkM _ _ _ (⟨(rd_T50 a6 a2).f0, wrap64 (a7 + 1)⟩ : S50) ) (fun _ hk => hk); have b2 := hcc12 1 _ rfl; (try simp only [show (k50).sz = 2 from rfl, Nat.mul_one, Nat.add_zero] at b2); have hf12_1 := hfr12 1; (try simp only [show (k50).sz = 2 from rfl, Nat.mul_one, Nat.add_zero] at hf12_1); (try clear hM12); clear hcl12 hcc12 hfr12) | ((with_reducible refine gate_store (t := 3) (p := 24) rfl ?_); refine store_event (t := 3) (p := 24) (v := ?vo_w13) (w1 := (b0.setCell ⟨go6, (a2 : Int).toNat * 2 + 1, none⟩ (.int .i64 (wrap64 (a7 + 1))))) ?hg ?ho ?hn ?hr ?_; (case ho => rfl); (case hg => rfl); (case hn => rfl); (case hr => first | (go_simp; done) | (go_simp; rfl)); intro b8 hw; have hg : b0.grownBy b8 (some go6) := (by rw [hw]; exact HP12.2); have hp_ : Kd.R k50 50 b8 w0.heap.size (fun k_ => (P0_ k_ ∨ w.heap.size ≤ k_)) (.slice (some ⟨go6, 0, none⟩) a3.length b6) a9 := (by rw [hw, Ny1260.out]; exact HP12.1); clear HP12; replace HB := aM ((by rw [hw]; exact below_set (HB.out) GB6.out : Below w0.heap.size w0 b8)); replace HK := aM (Kept.of_grown (S := (fun k_ => P0_ k_)) hg (by repeat (first | (with_reducible first | exact HK.out | apply Kept.alloc | apply Kept.drewN | apply Kept.drew) | exact HK.out)) (fun k_ e_ => (a5.out.1 k_ e_))); replace a5 := aM (hp_); clear hg hw hp_))
    go_roundg k1
    case measure => have := d0.out; omega
    case rel => exact ⟨(a9), (wrap64 ((wrap64 (a7 + 1)) + 1)), (wrap64 (a2 + 1)), fS, fS, H', ⟨by have := d0.out; omega⟩, ⟨rS a5⟩, ⟨by repeat (first | (with_reducible first | exact HK.out | apply Kept.alloc | apply Kept.drewN | apply Kept.drew) | exact HK.out)⟩, ⟨bS⟩⟩
   ·obtain ⟨rfl, rfl⟩ := sI2 H
    obtain ⟨e4, e5, b9⟩ := Kd.R_slice a5.out
    subst b9
    go_wp2
    go_ret
    exact ⟨eS, rS a5, bS, by repeat (first | (with_reducible first | exact HK.out | apply Kept.alloc | apply Kept.drewN | apply Kept.drew) | exact HK.out)⟩
end Go.Proofs.YtjkgponlahfnjaaGreat.QFnExactRunPage
