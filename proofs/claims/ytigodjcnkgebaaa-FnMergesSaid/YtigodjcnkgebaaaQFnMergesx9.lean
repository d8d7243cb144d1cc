-- Made out of the translation by a program of this session (a changed copy of the print). Not trusted: Lean checks it.
import Derived.Test.YtigodjcnkgebaaaQFnMergesx0
import Derived.Test.YtigodjcnkgebaaaQFnMergesx4
import Derived.Test.YtigodjcnkgebaaaQFnMergesx5
import Derived.Test.YtigodjcnkgebaaaQFnMergesx8
namespace Go.Proofs.Ytigodjcnkgebaaa.QFnMerges
open Go.RowKit Go.Proofs.YtigodjcnkgebaaaW.PrintWords Go.Proofs.YtigodjcnkgebaaaW.PrintLast Go.Proofs.YtigodjcnkgebaaaW.PrintMore
attribute [local go_sem] max2_int min2_int max_two min_two max_three min_three max_four min_four   -- for this text's walks alone
set_option linter.unusedVariables false
set_option linter.unusedSimpArgs false
set_option maxHeartbeats 8000000
set_option maxRecDepth 100000

/-! ### spec_l08In: function 149 -/
def spec_l08In.l0 : Nat → List (S171) → Int → Int → Bool → Int → Option (Bool)
 | 0, _, _, _, _, _ => none
 | k + 1, x0, x1, x2, x7, x8 => if x8 < (x0.length : Int) then (if 0 ≤ x8 then (if (x0.length : Int) = 0 then (none) else (if 0 ≤ (Int.tmod (wrap64 (x8 + 1)) (x0.length : Int)) then (if (Int.tmod (wrap64 (x8 + 1)) (x0.length : Int)) < (x0.length : Int) then ((spec_l08Crosses.f ((rd_T171 x0 x8).f0) ((rd_T171 x0 x8).f1) ((rd_T171 x0 (Int.tmod (wrap64 (x8 + 1)) (x0.length : Int))).f0) ((rd_T171 x0 (Int.tmod (wrap64 (x8 + 1)) (x0.length : Int))).f1) x1 x2).bind fun t442 => (if t442 = true then (spec_l08In.l0 k x0 x1 x2 (!x7) (wrap64 (x8 + 1))) else (spec_l08In.l0 k x0 x1 x2 x7 (wrap64 (x8 + 1))))) else (none)) else (none))) else (none)) else (some x7)
def spec_l08In.f (k : Nat) (l0 : List (S171)) (a1 : Int) (a2 : Int) : Option (Bool) := spec_l08In.l0 k l0 a1 a2 false 0
def spec_l08In.T5 : Bool × List (List Nat × List Nat) := (true, [([], []), ([], []), ([0, 1], [0, 1]), ([2], [2]), ([], []), ([], []), ([5], [5]), ([], []), ([7], [7]), ([6, 8], [6, 8]), ([4, 9], [4, 9]), ([10], [10]), ([], []), ([], []), ([3, 11, 12, 13], [3, 11, 12, 13])])
def spec_l08In.B5 : List Nat := [0, 0, 3, 7, 0, 0, 32, 0, 128, 480, 1008, 2032, 0, 0, 16383]
theorem spec_l08In.tab5 : rtab .any (opsOf Try.f149 5) = spec_l08In.T5 := by kernel_rfl
theorem spec_l08In.bits5 : waitsOk spec_l08In.T5.2 spec_l08In.B5 = true := by kernel_rfl
theorem spec_l08In.calls (k : Nat) (A0 : Option Addr) (c0 : Nat) (l0 : List (S171)) (a1 : Int) (a2 : Int) (r : Bool) (w : World) (hr0 : Kd.C k171 w A0 l0.length l0) (hc0 : l0.length ≤ c0) (h : spec_l08In.f k l0 a1 a2 = some r) :
  Calls Try.prog 149 #[.slice A0 l0.length c0, .int .i64 a1, .int .i64 a2] w fun e w' => e = .returned (.bool r) ∧ Below w.heap.size w w' := by
 have hu171 := Try.underlying171
 have HR0 := Aside0.mk hr0
 have HC0 := Aside0.mk hc0
 clear hr0 hc0
 have HB := Aside0.mk (Below.refl w.heap.size w)
 have H : (spec_l08In.l0 k l0 a1 a2 false 0) = some r := h
 clear h
 have H' := Aside0.mk H
 clear H
 go_enter Try.func149, Try.ntmps149
 go_wp2
 go_loopg [7, 8] k (fun kq v7 v8 w' => ∃ (x7_1 : Bool) (x8_1 : Int), v7 = .bool x7_1 ∧ v8 = .int .i64 x8_1 ∧ Aside0 (spec_l08In.l0 kq l0 a1 a2 x7_1 x8_1 = some r) ∧ Aside0 (kq ≤ k) ∧ Aside0 (Below w.heap.size w w'))
 case atStart => exact ⟨(false), (0), fS, fS, H', ⟨Nat.le_refl _⟩, ⟨bS⟩⟩
 case round =>
  clear H'
  try clear c1
  try clear p2
  obtain ⟨x7_1, x8_1, rfl, rfl, HA, HK1, HB⟩ := hrel
  cases gk with
  | zero => exact absurd HA.out (by simp [spec_l08In.l0])
  | succ k1 =>
   have H := HA.out
   clear HA
   simp only [spec_l08In.l0] at H
   rcases iD H with ⟨c4b0, H⟩ | ⟨c4b0, H⟩
   ·obtain ⟨c5b0, H⟩ := iT H
    by_cases c6 : (l0.length : Int) = 0
    ·rw [if_pos c6] at H
     exact absurd H (by simp)
    ·rw [if_neg c6] at H
     have c6b0 : ((l0.length : Int) == 0) = false := beq_eq_false_iff_ne.mpr c6
     have c6b1 : ((l0.length : Int) != 0) = true := bne_iff_ne.mpr c6
     have c6b2 : ¬ (l0 = []) := fun h_ => c6 (by rw [h_]; rfl)
     obtain ⟨ji7, hji7⟩ : ∃ j_ : Int, (Int.tmod (wrap64 (x8_1 + 1)) (l0.length : Int)) = j_ := ⟨_, rfl⟩
     replace H : (if 0 ≤ (ji7) then (if (ji7) < (l0.length : Int) then ((spec_l08Crosses.f ((rd_T171 l0 x8_1).f0) ((rd_T171 l0 x8_1).f1) ((rd_T171 l0 (ji7)).f0) ((rd_T171 l0 (ji7)).f1) a1 a2).bind fun t442 => (if t442 = true then (spec_l08In.l0 k1 l0 a1 a2 (!x7_1) (wrap64 (x8_1 + 1))) else (spec_l08In.l0 k1 l0 a1 a2 x7_1 (wrap64 (x8_1 + 1))))) else (none)) else (none)) = some r := by first | (rw [hji7] at H; exact H) | (simp only [hji7] at H ⊢; exact H)
     obtain ⟨c8b0, H⟩ := iT H
     obtain ⟨c9b0, H⟩ := iT H
     replace H := bN H
     obtain ⟨t442, A10, H⟩ := H
     by_cases c11 : t442 = true
     ·subst c11
      rw [if_pos rfl] at H
      have H' := Aside0.mk H
      clear H
      try go_wp2
      replace HB := Aside0.mk (below_drew1 HB.out)
      have p440 : 0 ≤ (x8_1 : Int) := dA
      have q440 : x8_1 < (l0.length : Int) := dA
      obtain ⟨ad440, e440, hx440_0, hx440_1⟩ := at_T171 HR0.out x8_1 p440 q440
      have hw440_1 := hx440_1
      have hw440_0 := hx440_0
      cases e440
      replace hx440_0 := cB HB hx440_0
      replace hx440_1 := cB HB hx440_1
      replace p440 := eq_true p440
      replace q440 := eq_true q440
      have p441 : 0 ≤ ((ji7) : Int) := dA
      have q441 : (ji7) < (l0.length : Int) := dA
      obtain ⟨ad441, e441, hx441_0, hx441_1⟩ := at_T171 HR0.out (ji7) p441 q441
      have hw441_1 := hx441_1
      have hw441_0 := hx441_0
      obtain rfl : ad440 = ad441 := (by injection e441)
      replace hx441_0 := cB HB hx441_0
      replace hx441_1 := cB HB hx441_1
      replace p441 := eq_true p441
      replace q441 := eq_true q441
      refine start_ (n := 15) (S := fun w' => w'.cell? (ad440.add ((x8_1).toNat * 2)) = some (.int .i64 ((rd_T171 l0 x8_1).f0)) ∧ w'.cell? ⟨(ad440.add ((x8_1).toNat * 2)).block, (ad440.add ((x8_1).toNat * 2)).off + 1, none⟩ = some (.int .i64 ((rd_T171 l0 x8_1).f1)) ∧ w'.cell? (ad440.add (((ji7)).toNat * 2)) = some (.int .i64 ((rd_T171 l0 (ji7)).f0)) ∧ w'.cell? ⟨(ad440.add (((ji7)).toNat * 2)).block, (ad440.add (((ji7)).toNat * 2)).off + 1, none⟩ = some (.int .i64 ((rd_T171 l0 (ji7)).f1))) (ds := []) #[false, false, false, false, false, false, false, false, false, false, false, false, false, false, false] (by kernel_rfl) rfl rfl ⟨(cB HB hw440_0), (cB HB hw440_1), (cB HB hw441_0), (cB HB hw441_1)⟩ (fun hHeld => ?_); refine with_tabW spec_l08In.tab5 spec_l08In.bits5 (fun HT_ HW_ => ?_)
      generalize wr.drew = w12 at HB hx440_0 hx440_1 hx441_0 hx441_1 hHeld ⊢
      refine pU 0 (some 15) #[true, false, false, false, false, false, false, false, false, false, false, false, false, false, false] ?_
      refine pU 1 (some 16) #[true, true, false, false, false, false, false, false, false, false, false, false, false, false, false] ?_
      refine pU 2 (some 17) #[true, true, true, false, false, false, false, false, false, false, false, false, false, false, false] ?_
      refine pU 4 (some 19) #[true, true, true, false, true, false, false, false, false, false, false, false, false, false, false] ?_
      refine pU 5 (some 20) #[true, true, true, false, true, true, false, false, false, false, false, false, false, false, false] ?_
      refine pU 6 (some 21) #[true, true, true, false, true, true, true, false, false, false, false, false, false, false, false] ?_
      refine pU 7 (some 22) #[true, true, true, false, true, true, true, true, false, false, false, false, false, false, false] ?_
      refine pU 8 (some 23) #[true, true, true, false, true, true, true, true, true, false, false, false, false, false, false] ?_
      refine pU 9 (some 24) #[true, true, true, false, true, true, true, true, true, true, false, false, false, false, false] ?_
      refine pU 10 (some 25) #[true, true, true, false, true, true, true, true, true, true, true, false, false, false, false] ?_
      refine pU 12 (some 27) #[true, true, true, false, true, true, true, true, true, true, true, false, true, false, false] ?_
      refine pU 13 (some 28) #[true, true, true, false, true, true, true, true, true, true, true, false, true, true, false] ?_
      refine tK 3 (some 18) #[true, true, true, true, true, true, true, true, true, true, true, false, true, true, false] ?_
      refine tK 11 (some 26) #[true, true, true, true, true, true, true, true, true, true, true, true, true, true, false] ?_
      refine one_ (i := 14) (N := some 29) #[true, true, true, true, true, true, true, true, true, true, true, true, true, true, true] rfl rfl (one_of HT_.out (by kernel_rfl)) (by decide) (fun K hK => ?_)
      refine goes_ Try.func187 (by kernel_rfl) rfl #[.agg #[.int .i64 ((rd_T171 l0 x8_1).f0), .int .i64 ((rd_T171 l0 x8_1).f1)], .agg #[.int .i64 ((rd_T171 l0 (ji7)).f0), .int .i64 ((rd_T171 l0 (ji7)).f1)], .int .i64 a1, .int .i64 a2] (by rfl) rfl rfl (by (try simp only [List.map_toArray, List.map_cons, List.map_nil]); first | done | (simp only [hji7]; rfl) | rfl | (simp only [List.length_drop, List.length_take]; rfl)) ?_
      with_reducible refine (spec_l08Crosses.calls ((rd_T171 l0 x8_1).f0) ((rd_T171 l0 x8_1).f1) ((rd_T171 l0 (ji7)).f0) ((rd_T171 l0 (ji7)).f1) a1 a2 _ _ A10.out).mono ?_
      rintro e w13 ⟨rfl, hb⟩
      refine ⟨_, rfl, ?_⟩
      replace HB := hB hb
      (try clear hb)
      (try clear hb2)
      (try clear hk)
      (try clear hi)
      refine hK.out _ _ ⟨(cB HB hw440_0), (cB HB hw440_1), (cB HB hw441_0), (cB HB hw441_1)⟩ (fun hHeld => ?_)
      clear hK K
      refine norm_ (a' := ?_) ?_ ?_
      rotate_left
      ·show Act.put _ (some 29) _ = _
       simp only [Act.put, List.setIfInBounds_toArray, List.set_cons_zero, List.set_cons_succ, i64_w, i32_w]
       rfl
      refine done_ (done_of HT_.out (by kernel_rfl)) ?_
      try go_wp2
      go_roundg k1
      case measure => have := HK1.out; omega
      case rel => exact ⟨(!x7_1), (wrap64 (x8_1 + 1)), fS, fS, H', ⟨by have := HK1.out; omega⟩, ⟨bS⟩⟩
     ·obtain rfl := Bool.eq_false_iff.mpr c11
      rw [if_neg nF] at H
      have H' := Aside0.mk H
      clear H
      try go_wp2
      replace HB := Aside0.mk (below_drew1 HB.out)
      have p440 : 0 ≤ (x8_1 : Int) := dA
      have q440 : x8_1 < (l0.length : Int) := dA
      obtain ⟨ad440, e440, hx440_0, hx440_1⟩ := at_T171 HR0.out x8_1 p440 q440
      have hw440_1 := hx440_1
      have hw440_0 := hx440_0
      cases e440
      replace hx440_0 := cB HB hx440_0
      replace hx440_1 := cB HB hx440_1
      replace p440 := eq_true p440
      replace q440 := eq_true q440
      have p441 : 0 ≤ ((ji7) : Int) := dA
      have q441 : (ji7) < (l0.length : Int) := dA
      obtain ⟨ad441, e441, hx441_0, hx441_1⟩ := at_T171 HR0.out (ji7) p441 q441
      have hw441_1 := hx441_1
      have hw441_0 := hx441_0
      obtain rfl : ad440 = ad441 := (by injection e441)
      replace hx441_0 := cB HB hx441_0
      replace hx441_1 := cB HB hx441_1
      replace p441 := eq_true p441
      replace q441 := eq_true q441
      refine start_ (n := 15) (S := fun w' => w'.cell? (ad440.add ((x8_1).toNat * 2)) = some (.int .i64 ((rd_T171 l0 x8_1).f0)) ∧ w'.cell? ⟨(ad440.add ((x8_1).toNat * 2)).block, (ad440.add ((x8_1).toNat * 2)).off + 1, none⟩ = some (.int .i64 ((rd_T171 l0 x8_1).f1)) ∧ w'.cell? (ad440.add (((ji7)).toNat * 2)) = some (.int .i64 ((rd_T171 l0 (ji7)).f0)) ∧ w'.cell? ⟨(ad440.add (((ji7)).toNat * 2)).block, (ad440.add (((ji7)).toNat * 2)).off + 1, none⟩ = some (.int .i64 ((rd_T171 l0 (ji7)).f1))) (ds := []) #[false, false, false, false, false, false, false, false, false, false, false, false, false, false, false] (by kernel_rfl) rfl rfl ⟨(cB HB hw440_0), (cB HB hw440_1), (cB HB hw441_0), (cB HB hw441_1)⟩ (fun hHeld => ?_); refine with_tabW spec_l08In.tab5 spec_l08In.bits5 (fun HT_ HW_ => ?_)
      generalize wr.drew = w14 at HB hx440_0 hx440_1 hx441_0 hx441_1 hHeld ⊢
      refine pU 0 (some 15) #[true, false, false, false, false, false, false, false, false, false, false, false, false, false, false] ?_
      refine pU 1 (some 16) #[true, true, false, false, false, false, false, false, false, false, false, false, false, false, false] ?_
      refine pU 2 (some 17) #[true, true, true, false, false, false, false, false, false, false, false, false, false, false, false] ?_
      refine pU 4 (some 19) #[true, true, true, false, true, false, false, false, false, false, false, false, false, false, false] ?_
      refine pU 5 (some 20) #[true, true, true, false, true, true, false, false, false, false, false, false, false, false, false] ?_
      refine pU 6 (some 21) #[true, true, true, false, true, true, true, false, false, false, false, false, false, false, false] ?_
      refine pU 7 (some 22) #[true, true, true, false, true, true, true, true, false, false, false, false, false, false, false] ?_
      refine pU 8 (some 23) #[true, true, true, false, true, true, true, true, true, false, false, false, false, false, false] ?_
      refine pU 9 (some 24) #[true, true, true, false, true, true, true, true, true, true, false, false, false, false, false] ?_
      refine pU 10 (some 25) #[true, true, true, false, true, true, true, true, true, true, true, false, false, false, false] ?_
      refine pU 12 (some 27) #[true, true, true, false, true, true, true, true, true, true, true, false, true, false, false] ?_
      refine pU 13 (some 28) #[true, true, true, false, true, true, true, true, true, true, true, false, true, true, false] ?_
      refine tK 3 (some 18) #[true, true, true, true, true, true, true, true, true, true, true, false, true, true, false] ?_
      refine tK 11 (some 26) #[true, true, true, true, true, true, true, true, true, true, true, true, true, true, false] ?_
      refine one_ (i := 14) (N := some 29) #[true, true, true, true, true, true, true, true, true, true, true, true, true, true, true] rfl rfl (one_of HT_.out (by kernel_rfl)) (by decide) (fun K hK => ?_)
      refine goes_ Try.func187 (by kernel_rfl) rfl #[.agg #[.int .i64 ((rd_T171 l0 x8_1).f0), .int .i64 ((rd_T171 l0 x8_1).f1)], .agg #[.int .i64 ((rd_T171 l0 (ji7)).f0), .int .i64 ((rd_T171 l0 (ji7)).f1)], .int .i64 a1, .int .i64 a2] (by rfl) rfl rfl (by (try simp only [List.map_toArray, List.map_cons, List.map_nil]); first | done | (simp only [hji7]; rfl) | rfl | (simp only [List.length_drop, List.length_take]; rfl)) ?_
      with_reducible refine (spec_l08Crosses.calls ((rd_T171 l0 x8_1).f0) ((rd_T171 l0 x8_1).f1) ((rd_T171 l0 (ji7)).f0) ((rd_T171 l0 (ji7)).f1) a1 a2 _ _ A10.out).mono ?_
      rintro e w15 ⟨rfl, hb⟩
      refine ⟨_, rfl, ?_⟩
      replace HB := hB hb
      (try clear hb)
      (try clear hb2)
      (try clear hk)
      (try clear hi)
      refine hK.out _ _ ⟨(cB HB hw440_0), (cB HB hw440_1), (cB HB hw441_0), (cB HB hw441_1)⟩ (fun hHeld => ?_)
      clear hK K
      refine norm_ (a' := ?_) ?_ ?_
      rotate_left
      ·show Act.put _ (some 29) _ = _
       simp only [Act.put, List.setIfInBounds_toArray, List.set_cons_zero, List.set_cons_succ, i64_w, i32_w]
       rfl
      refine done_ (done_of HT_.out (by kernel_rfl)) ?_
      try go_wp2
      go_roundg k1
      case measure => have := HK1.out; omega
      case rel => exact ⟨(x7_1), (wrap64 (x8_1 + 1)), fS, fS, H', ⟨by have := HK1.out; omega⟩, ⟨bS⟩⟩
   ·obtain rfl := Option.some.inj H
    go_wp2
    go_ret
    exact ⟨eS, bS⟩

/-! ### spec_SpansAt: function 84 -/
mutual
def spec_SpansAt.j0 : Nat → List (S171) → Int → List (S124) → Bool → Option ((List (S124)))
 | 0, _, _, _, _ => none
 | k + 1, x0, x1, x5, x19 => if x19 = true then (some x5) else ((spec_BoxOf.f k x0).bind fun bt448 => (spec_SpansAt.l0 k x0 x1 x5 bt448.1 false bt448.1 bt448.1 bt448.2.1 bt448.2.2.1 bt448.2.2.2))
def spec_SpansAt.l0 : Nat → List (S171) → Int → List (S124) → Int → Bool → Int → Int → Int → Int → Int → Option ((List (S124)))
 | 0, _, _, _, _, _, _, _, _, _, _ => none
 | k + 1, x0, x1, x5, x7, x8, x9, x453000, x453001, x453002, x453003 => if x9 ≤ x453002 then ((spec_l08In.f k x0 x9 x1).bind fun t453 => (if t453 = true then (spec_SpansAt.j2 k x0 x1 x5 x7 x8 x9 t453 (!x8) x453000 x453001 x453002 x453003) else (spec_SpansAt.j2 k x0 x1 x5 x7 x8 x9 t453 false x453000 x453001 x453002 x453003))) else (some x5)
def spec_SpansAt.j2 : Nat → List (S171) → Int → List (S124) → Int → Bool → Int → Bool → Bool → Int → Int → Int → Int → Option ((List (S124)))
 | 0, _, _, _, _, _, _, _, _, _, _, _, _ => none
 | k + 1, x0, x1, x5, x7, x8, x9, x10, x41, x453000, x453001, x453002, x453003 => if x41 = true then (if x10 = true then (spec_SpansAt.l0 k x0 x1 x5 x9 x10 (wrap64 (x9 + 1)) x453000 x453001 x453002 x453003) else (if x8 = true then (if x5.length < 8796093022208 then (spec_SpansAt.l0 k x0 x1 (x5 ++ [(⟨x9, x9⟩ : S124)]) x9 x10 (wrap64 (x9 + 1)) x453000 x453001 x453002 x453003) else (none)) else (spec_SpansAt.l0 k x0 x1 x5 x9 x10 (wrap64 (x9 + 1)) x453000 x453001 x453002 x453003))) else (if x10 = true then (spec_SpansAt.l0 k x0 x1 x5 x7 x10 (wrap64 (x9 + 1)) x453000 x453001 x453002 x453003) else (if x8 = true then (if x5.length < 8796093022208 then (spec_SpansAt.l0 k x0 x1 (x5 ++ [(⟨x7, x9⟩ : S124)]) x7 x10 (wrap64 (x9 + 1)) x453000 x453001 x453002 x453003) else (none)) else (spec_SpansAt.l0 k x0 x1 x5 x7 x10 (wrap64 (x9 + 1)) x453000 x453001 x453002 x453003)))
end
def spec_SpansAt.f (k : Nat) (l0 : List (S171)) (a1 : Int) : Option ((List (S124))) := (some (([] : List (S124)) : List (S124))).bind fun y443 => ((spec_l07Points.f k l0).bind fun t446 => (if t446 = true then ((spec_l02In.f a1).bind fun t447 => (spec_SpansAt.j0 k l0 a1 y443 (!t447))) else (spec_SpansAt.j0 k l0 a1 y443 true)))
theorem spec_SpansAt.calls (k : Nat) (A0 : Option Addr) (c0 : Nat) (l0 : List (S171)) (a1 : Int) (r : List (S124)) (w : World) (hr0 : Kd.C k171 w A0 l0.length l0) (hc0 : l0.length ≤ c0) (h : spec_SpansAt.f k l0 a1 = some r) :
  Calls Try.prog 84 #[.slice A0 l0.length c0, .int .i64 a1] w fun e w' => ∃ v0_ : Value, e = .returned (v0_) ∧ Kd.R k124 124 w' w.heap.size (fun _ => True) v0_ r ∧ Below w.heap.size w w' := by
 have hu43 := Try.underlying43
 have hu124 := Try.underlying124
 have HR0 := Aside0.mk hr0
 have HC0 := Aside0.mk hc0
 clear hr0 hc0
 have HB := Aside0.mk (Below.refl w.heap.size w)
 have H : ((some (([] : List (S124)) : List (S124))).bind fun y443 => ((spec_l07Points.f k l0).bind fun t446 => (if t446 = true then ((spec_l02In.f a1).bind fun t447 => (spec_SpansAt.j0 k l0 a1 y443 (!t447))) else (spec_SpansAt.j0 k l0 a1 y443 true)))) = some r := h
 clear h
 obtain ⟨y443, hy443⟩ : ∃ y_ : List (S124), y_ = (([] : List (S124))) := ⟨_, rfl⟩
 replace H : ((spec_l07Points.f k l0).bind fun t446 => (if t446 = true then ((spec_l02In.f a1).bind fun t447 => (spec_SpansAt.j0 k l0 a1 y443 (!t447))) else (spec_SpansAt.j0 k l0 a1 y443 true))) = some r := by first | (rw [hy443]; with_reducible exact H) | (have H2_ := (Option.bind_some _ _).symm.trans H; rw [hy443]; with_reducible exact H2_) | (have H2_ := (Option.bind_some _ _).symm.trans H; with_reducible exact H2_) | with_reducible exact H | (rw [hy443]; exact H) | exact H
 have Ny443 := Aside0.mk hy443
 clear hy443
 have HC3 := Aside0.mk H
 clear H
 go_enter Try.func84, Try.ntmps84
 go_upto_region 2 with (first | ((with_reducible refine gate_dst (N := 11) rfl ?_); refine Kd.R_lit k124 _ 124 ?hg (N := 11) ?hd (xs := ([] : List (S124))) (inner := []) (ok := fun _ => True) (okp := fun _ => True) ?hr ?hp (fun _ hk => hk) trivial (Below.refl _ _) (Nat.le_refl _) (by simp) ?_; (case hd => rfl); (case hg => rfl); (case hr => first | (go_simp; done) | (go_simp; rfl)); (case hp => exact (Reps.none _ _)); intro v444 w4 ho5 hb hg_ hnew_; clear hg_ hnew_; (first | rw [← Ny443.out] at ho5 | (simp only [Int.reduceToNat] at ho5; rw [← Ny443.out] at ho5)); have HO445 := Aside0.mk (Kd.R_lower ho5 (below_size bS)); replace HB := hB hb; clear hb ho5))
 (try simp only [Act.put, List.setIfInBounds_toArray, List.set_cons_zero, List.set_cons_succ])
 go_cut [19] (fun v19 wc => ∃ (kq : Nat) (x19_2 : Bool), v19 = .bool x19_2 ∧ Aside0 (spec_SpansAt.j0 kq l0 a1 y443 x19_2 = some r) ∧ Aside0 (kq ≤ k) ∧ Aside0 (Kd.R k124 124 wc w.heap.size (fun _ => True) v444 y443) ∧ Aside0 (Below w.heap.size w wc))
 case first =>
  have H := HC3.out
  clear HC3
  replace H := bN H
  obtain ⟨t446, A6, H⟩ := H
  by_cases c7 : t446 = true
  ·subst c7
   rw [if_pos rfl] at H
   replace H := bN H
   obtain ⟨t447, A8, H⟩ := H
   have H' := Aside0.mk H
   clear H
   go_wp2_with (first | ((with_reducible refine gC 147 ?_); refine cL (some 13) Try.func147 #[.slice A0 l0.length c0] ?_; (with_reducible refine (spec_l07Points.calls k _ _ l0 _ _ (cS (Kd.C_below HR0.out HB.out)) HC0.out A6.out).mono ?_); rintro e w9 ⟨rfl, hb⟩; refine ⟨_, rfl, ?_⟩; replace HO445 := Aside0.mk (Kd.R_below (rS HO445) hb); replace HB := hB hb; (try clear hb); (try clear hb2); (try clear hk); (try clear hi)) | (go_at_call 148; (with_reducible refine (spec_l02In.calls a1 t447 _ A8.out).mono ?_); rintro e w' ⟨rfl, ⟨nd, rfl⟩⟩))
   go_meet
   case rel => exact ⟨_, (!t447), fS, H', ⟨by first | omega | exact Nat.le_refl _⟩, ⟨rS HO445⟩, ⟨bS⟩⟩
  ·obtain rfl := Bool.eq_false_iff.mpr c7
   rw [if_neg nF] at H
   have H' := Aside0.mk H
   clear H
   go_wp2_with (first | ((with_reducible refine gC 147 ?_); refine cL (some 13) Try.func147 #[.slice A0 l0.length c0] ?_; (with_reducible refine (spec_l07Points.calls k _ _ l0 _ _ (cS (Kd.C_below HR0.out HB.out)) HC0.out A6.out).mono ?_); rintro e w10 ⟨rfl, hb⟩; refine ⟨_, rfl, ?_⟩; replace HO445 := Aside0.mk (Kd.R_below (rS HO445) hb); replace HB := hB hb; (try clear hb); (try clear hb2); (try clear hk); (try clear hi)))
   go_meet
   case rel => exact ⟨_, (true), fS, H', ⟨by first | omega | exact Nat.le_refl _⟩, ⟨rS HO445⟩, ⟨bS⟩⟩
 case rest =>
  clear HC3
  try clear c1
  try clear p2
  try clear c7
  try clear c8
  obtain ⟨kq, x19_2, rfl, HA, HJ2, HO_5, HB⟩ := hcut
  cases kq with
  | zero => exact absurd HA.out (by simp [spec_SpansAt.j0])
  | succ kj2 =>
   have H := HA.out
   clear HA
   simp only [spec_SpansAt.j0] at H
   by_cases c11 : x19_2 = true
   ·subst c11
    rw [if_pos rfl] at H
    obtain rfl := Option.some.inj H
    go_wp2
    go_ret
    exact ⟨_, eS, rS HO_5, bS⟩
   ·obtain rfl := Bool.eq_false_iff.mpr c11
    rw [if_neg nF] at H
    replace H := bN H
    obtain ⟨⟨t448, t449, t450, t451⟩, A12, H⟩ := H
    have H' := Aside0.mk H
    clear H
    go_wp2_with (first | ((with_reducible refine gC 143 ?_); refine cL (some 22) Try.func143 #[.slice A0 l0.length c0] ?_; (with_reducible refine (spec_BoxOf.calls kj2 _ _ l0 t448 t449 t450 t451 _ (cS (Kd.C_below HR0.out HB.out)) HC0.out A12.out).mono ?_); rintro e w13 ⟨rfl, hb⟩; refine ⟨_, rfl, ?_⟩; replace HO_5 := Aside0.mk (Kd.R_below (rS HO_5) hb); replace HB := hB hb; (try clear hb); (try clear hb2); (try clear hk); (try clear hi)) | ((with_reducible refine gD 6 ?_); refine bxE #[.int .i64 0, .int .i64 0, .int .i64 0, .int .i64 0] 43 ?_; intro gb452 hg w14 BK452 hb; have GW452 := gE hg; have GE452 := gE hg; replace HO_5 := Aside0.mk (Kd.R_below (rS HO_5) hb); replace HB := hB hb; clear hb hg; have hcz15_0 : w14.cell? ⟨gb452, 0, none⟩ = some (.int .i64 0) := (blk_cell BK452.out 0).trans rfl; have hcz15_1 : w14.cell? ⟨gb452, 1, none⟩ = some (.int .i64 0) := (blk_cell BK452.out 1).trans rfl; have hcz15_2 : w14.cell? ⟨gb452, 2, none⟩ = some (.int .i64 0) := (blk_cell BK452.out 2).trans rfl; have hcz15_3 : w14.cell? ⟨gb452, 3, none⟩ = some (.int .i64 0) := (blk_cell BK452.out 3).trans rfl; have hfz15_0 := blk_frozen BK452.out 0; have hfz15_1 := blk_frozen BK452.out 1; have hfz15_2 := blk_frozen BK452.out 2; have hfz15_3 := blk_frozen BK452.out 3))
    go_loopg [5, 7, 8, 9] kj2 (fun kq v5 v7 v8 v9 w' => ∃ (x5_2 : List (S124)) (x7_2 : Int) (x8_2 : Bool) (x9_2 : Int), v7 = .int .i64 x7_2 ∧ v8 = .bool x8_2 ∧ v9 = .int .i64 x9_2 ∧ Aside0 (spec_SpansAt.l0 kq l0 a1 x5_2 x7_2 x8_2 x9_2 t448 t449 t450 t451 = some r) ∧ Aside0 (kq ≤ kj2) ∧ Aside0 (Kd.R k124 124 w' w.heap.size (fun _ => True) v5 x5_2) ∧ Aside0 (w'.heap[gb452]? = some (.cells #[.int .i64 t448, .int .i64 t449, .int .i64 t450, .int .i64 t451] 43 (0, 0))) ∧ Aside0 (Below w.heap.size w w'))
    case atStart => exact ⟨(y443), (t448), (false), (t448), fS, fS, fS, H', ⟨Nat.le_refl _⟩, ⟨by exact rT (Kd.R_mono (Kd.R_far (p := ⟨gb452, 3, none⟩) (Kd.R_far (p := ⟨gb452, 2, none⟩) (Kd.R_far (p := ⟨gb452, 1, none⟩) (Kd.R_far (p := ⟨gb452, 0, none⟩) (Kd.R_types HO_5.out BK452.out (by decide)) (fun _ hk => hk.2) (.int .i64 t448)) (fun _ hk => hk.2) (.int .i64 t449)) (fun _ hk => hk.2) (.int .i64 t450)) (fun _ hk => hk.2) (.int .i64 t451)) (fun _ hk => trivial))⟩, ⟨kS⟩, ⟨bS⟩⟩
    case round =>
     clear H'
     try clear c1
     try clear p2
     try clear c7
     try clear c8
     try clear c11
     try clear c14
     try clear hcz15_0
     try clear hcz15_1
     try clear hcz15_2
     try clear hcz15_3
     try clear hfz15_0
     try clear hfz15_1
     try clear hfz15_2
     try clear hfz15_3
     try clear p2
     obtain ⟨x5_2, x7_2, x8_2, x9_2, rfl, rfl, rfl, HA, HK2, HO_5, BK452, HB⟩ := hrel
     cases gk with
     | zero => exact absurd HA.out (by simp [spec_SpansAt.l0])
     | succ k2 =>
      have H := HA.out
      clear HA
      simp only [spec_SpansAt.l0] at H
      by_cases c16 : x9_2 ≤ t450
      ·rw [if_pos c16] at H
       have c16b0 : decide (x9_2 ≤ t450) = true := decide_eq_true c16
       clear c16
       replace H := bN H
       obtain ⟨t453, A17, H⟩ := H
       have HC18 := Aside0.mk H
       clear H
       have hcz19_0 : wr.cell? ⟨gb452, 0, none⟩ = some (.int .i64 t448) := (blk_cell BK452.out 0).trans rfl
       have hcz19_1 : wr.cell? ⟨gb452, 1, none⟩ = some (.int .i64 t449) := (blk_cell BK452.out 1).trans rfl
       have hcz19_2 : wr.cell? ⟨gb452, 2, none⟩ = some (.int .i64 t450) := (blk_cell BK452.out 2).trans rfl
       have hcz19_3 : wr.cell? ⟨gb452, 3, none⟩ = some (.int .i64 t451) := (blk_cell BK452.out 3).trans rfl
       have hfz19_0 := blk_frozen BK452.out 0
       have hfz19_1 := blk_frozen BK452.out 1
       have hfz19_2 := blk_frozen BK452.out 2
       have hfz19_3 := blk_frozen BK452.out 3
       go_upto_region 11 with (first | ((with_reducible refine gC 149 ?_); refine cL (some 36) Try.func149 #[.slice A0 l0.length c0, .int .i64 x9_2, .int .i64 a1] ?_; (with_reducible refine (spec_l08In.calls k2 _ _ l0 x9_2 a1 t453 _ (cS (Kd.C_below HR0.out HB.out)) HC0.out A17.out).mono ?_); rintro e w20 ⟨rfl, hb⟩; refine ⟨_, rfl, ?_⟩; replace HO_5 := Aside0.mk (Kd.R_below (rS HO_5) hb); replace BK452 := kB (g := gb452) hb; replace HB := hB hb; (try clear hb); (try clear hb2); (try clear hk); (try clear hi)))
       (try simp only [Act.put, List.setIfInBounds_toArray, List.set_cons_zero, List.set_cons_succ])
       go_cut [41] (fun v41 wc => ∃ (kq : Nat) (x41_17 : Bool), v41 = .bool x41_17 ∧ Aside0 (spec_SpansAt.j2 kq l0 a1 x5_2 x7_2 x8_2 x9_2 t453 x41_17 t448 t449 t450 t451 = some r) ∧ Aside0 (kq ≤ k2) ∧ Aside0 (Kd.R k124 124 wc w.heap.size (fun _ => True) u5 x5_2) ∧ Aside0 (wc.heap[gb452]? = some (.cells #[.int .i64 t448, .int .i64 t449, .int .i64 t450, .int .i64 t451] 43 (0, 0))) ∧ Aside0 (Below w.heap.size w wc))
       case first =>
        have H := HC18.out
        clear HC18
        by_cases c21 : t453 = true
        ·subst c21
         rw [if_pos rfl] at H
         have H' := Aside0.mk H
         clear H
         go_wp2
         go_meet
         case rel => exact ⟨_, (!x8_2), fS, H', ⟨by have := HJ2.out; have := HK2.out; first | omega | exact Nat.le_refl _⟩, ⟨rS HO_5⟩, ⟨kS⟩, ⟨bS⟩⟩
        ·obtain rfl := Bool.eq_false_iff.mpr c21
         rw [if_neg nF] at H
         have H' := Aside0.mk H
         clear H
         go_wp2
         go_meet
         case rel => exact ⟨_, (false), fS, H', ⟨by have := HJ2.out; have := HK2.out; first | omega | exact Nat.le_refl _⟩, ⟨rS HO_5⟩, ⟨kS⟩, ⟨bS⟩⟩
       case rest =>
        clear HC18
        try clear c1
        try clear c2
        try clear p2
        try clear c7
        try clear c8
        try clear c11
        try clear c14
        try clear c16
        try clear c16b0
        try clear c21
        try clear hcz15_0
        try clear hcz15_1
        try clear hcz15_2
        try clear hcz15_3
        try clear hcz19_0
        try clear hcz19_1
        try clear hcz19_2
        try clear hcz19_3
        try clear hfz15_0
        try clear hfz15_1
        try clear hfz15_2
        try clear hfz15_3
        try clear hfz19_0
        try clear hfz19_1
        try clear hfz19_2
        try clear hfz19_3
        try clear p2
        obtain ⟨kq, x41_17, rfl, HA, HJ17, HO_5, BK452, HB⟩ := hcut
        cases kq with
        | zero => exact absurd HA.out (by simp [spec_SpansAt.j2])
        | succ kj17 =>
         have H := HA.out
         clear HA
         simp only [spec_SpansAt.j2] at H
         by_cases c22 : x41_17 = true
         ·subst c22
          rw [if_pos rfl] at H
          by_cases c23 : t453 = true
          ·subst c23
           rw [if_pos rfl] at H
           have H' := Aside0.mk H
           clear H
           go_wp2
           go_roundg kj17
           case measure => have := HJ2.out; have := HK2.out; have := HJ17.out; omega
           case rel => exact ⟨(x5_2), (x9_2), (true), (wrap64 (x9_2 + 1)), fS, fS, fS, H', ⟨by have := HJ2.out; have := HK2.out; have := HJ17.out; omega⟩, ⟨rS HO_5⟩, ⟨kS⟩, ⟨bS⟩⟩
          ·obtain rfl := Bool.eq_false_iff.mpr c23
           rw [if_neg nF] at H
           by_cases c24 : x8_2 = true
           ·subst c24
            rw [if_pos rfl] at H
            obtain ⟨LMc25, H⟩ := iL H
            obtain ⟨y454, hy454⟩ : ∃ y_ : List (S124), y_ = (x5_2 ++ [(⟨x9_2, x9_2⟩ : S124)]) := ⟨_, rfl⟩
            replace H : (spec_SpansAt.l0 kj17 l0 a1 y454 x9_2 false (wrap64 (x9_2 + 1)) t448 t449 t450 t451) = some r := by first | (rw [hy454]; with_reducible exact H) | (have H2_ := (Option.bind_some _ _).symm.trans H; rw [hy454]; with_reducible exact H2_) | (have H2_ := (Option.bind_some _ _).symm.trans H; with_reducible exact H2_) | with_reducible exact H | (rw [hy454]; exact H) | exact H
            have Ny454 := Aside0.mk hy454
            clear hy454
            have H' := Aside0.mk H
            clear H
            go_wp2_with (first | ((with_reducible refine gate_builtin (b := .append) (xs := #[.tmp 48, .tmp 52]) rfl ?_); at_builtin; refine Kd.R_append k124 (w0 := w) w.heap.size rfl (.tmp 48) (.tmp 52) 40 124 (.agg #[(.int .i64 0), (.int .i64 0)]) 16 rfl Try.underlying40 info124 rfl (by decide) (by omega) u5 x5_2 (⟨x9_2, x9_2⟩ : S124) [.int .i64 x9_2, .int .i64 x9_2] (fun _ => True) (fun _ => False) rfl rfl ?aP (fun _ hk => hk.elim) ?aF ?aO ?aB ?aS ?aL ?_; (case aP => exact k124_mkM _ _ _ (⟨x9_2, x9_2⟩ : S124)); (case aB => exact bS); (case aF => exact (fun _ _ => trivial)); (case aO => exact (rS HO_5)); (case aS => exact (below_size bS)); (case aL => have := LMc25.out; omega); intro v455 w26 ho hb hg hat; rw [← Ny454.out] at ho; have HO456 := Aside0.mk (ho); replace BK452 := Aside0.mk (blk_grown (g := gb452) kS hg (Kd.R_ne HO_5.out BK452.out (by decide))); replace HB := Aside0.mk (hb); clear HO_5; clear ho hb hg hat))
            go_roundg kj17
            case measure => have := HJ2.out; have := HK2.out; have := HJ17.out; omega
            case rel => exact ⟨(y454), (x9_2), (false), (wrap64 (x9_2 + 1)), fS, fS, fS, H', ⟨by have := HJ2.out; have := HK2.out; have := HJ17.out; omega⟩, ⟨rS HO456⟩, ⟨kS⟩, ⟨bS⟩⟩
           ·obtain rfl := Bool.eq_false_iff.mpr c24
            rw [if_neg nF] at H
            have H' := Aside0.mk H
            clear H
            go_wp2
            go_roundg kj17
            case measure => have := HJ2.out; have := HK2.out; have := HJ17.out; omega
            case rel => exact ⟨(x5_2), (x9_2), (false), (wrap64 (x9_2 + 1)), fS, fS, fS, H', ⟨by have := HJ2.out; have := HK2.out; have := HJ17.out; omega⟩, ⟨rS HO_5⟩, ⟨kS⟩, ⟨bS⟩⟩
         ·obtain rfl := Bool.eq_false_iff.mpr c22
          rw [if_neg nF] at H
          by_cases c27 : t453 = true
          ·subst c27
           rw [if_pos rfl] at H
           have H' := Aside0.mk H
           clear H
           go_wp2
           go_roundg kj17
           case measure => have := HJ2.out; have := HK2.out; have := HJ17.out; omega
           case rel => exact ⟨(x5_2), (x7_2), (true), (wrap64 (x9_2 + 1)), fS, fS, fS, H', ⟨by have := HJ2.out; have := HK2.out; have := HJ17.out; omega⟩, ⟨rS HO_5⟩, ⟨kS⟩, ⟨bS⟩⟩
          ·obtain rfl := Bool.eq_false_iff.mpr c27
           rw [if_neg nF] at H
           by_cases c28 : x8_2 = true
           ·subst c28
            rw [if_pos rfl] at H
            obtain ⟨LMc29, H⟩ := iL H
            obtain ⟨y457, hy457⟩ : ∃ y_ : List (S124), y_ = (x5_2 ++ [(⟨x7_2, x9_2⟩ : S124)]) := ⟨_, rfl⟩
            replace H : (spec_SpansAt.l0 kj17 l0 a1 y457 x7_2 false (wrap64 (x9_2 + 1)) t448 t449 t450 t451) = some r := by first | (rw [hy457]; with_reducible exact H) | (have H2_ := (Option.bind_some _ _).symm.trans H; rw [hy457]; with_reducible exact H2_) | (have H2_ := (Option.bind_some _ _).symm.trans H; with_reducible exact H2_) | with_reducible exact H | (rw [hy457]; exact H) | exact H
            have Ny457 := Aside0.mk hy457
            clear hy457
            have H' := Aside0.mk H
            clear H
            go_wp2_with (first | ((with_reducible refine gate_builtin (b := .append) (xs := #[.tmp 48, .tmp 52]) rfl ?_); at_builtin; refine Kd.R_append k124 (w0 := w) w.heap.size rfl (.tmp 48) (.tmp 52) 40 124 (.agg #[(.int .i64 0), (.int .i64 0)]) 16 rfl Try.underlying40 info124 rfl (by decide) (by omega) u5 x5_2 (⟨x7_2, x9_2⟩ : S124) [.int .i64 x7_2, .int .i64 x9_2] (fun _ => True) (fun _ => False) rfl rfl ?aP (fun _ hk => hk.elim) ?aF ?aO ?aB ?aS ?aL ?_; (case aP => exact k124_mkM _ _ _ (⟨x7_2, x9_2⟩ : S124)); (case aB => exact bS); (case aF => exact (fun _ _ => trivial)); (case aO => exact (rS HO_5)); (case aS => exact (below_size bS)); (case aL => have := LMc29.out; omega); intro v458 w30 ho hb hg hat; rw [← Ny457.out] at ho; have HO459 := Aside0.mk (ho); replace BK452 := Aside0.mk (blk_grown (g := gb452) kS hg (Kd.R_ne HO_5.out BK452.out (by decide))); replace HB := Aside0.mk (hb); clear HO_5; clear ho hb hg hat))
            go_roundg kj17
            case measure => have := HJ2.out; have := HK2.out; have := HJ17.out; omega
            case rel => exact ⟨(y457), (x7_2), (false), (wrap64 (x9_2 + 1)), fS, fS, fS, H', ⟨by have := HJ2.out; have := HK2.out; have := HJ17.out; omega⟩, ⟨rS HO459⟩, ⟨kS⟩, ⟨bS⟩⟩
           ·obtain rfl := Bool.eq_false_iff.mpr c28
            rw [if_neg nF] at H
            have H' := Aside0.mk H
            clear H
            go_wp2
            go_roundg kj17
            case measure => have := HJ2.out; have := HK2.out; have := HJ17.out; omega
            case rel => exact ⟨(x5_2), (x7_2), (false), (wrap64 (x9_2 + 1)), fS, fS, fS, H', ⟨by have := HJ2.out; have := HK2.out; have := HJ17.out; omega⟩, ⟨rS HO_5⟩, ⟨kS⟩, ⟨bS⟩⟩
      ·rw [if_neg c16] at H
       have c16b0 : decide (x9_2 ≤ t450) = false := decide_eq_false c16
       clear c16
       obtain rfl := Option.some.inj H
       have hz31 := cz4 BK452
       go_wp2
       go_ret
       exact ⟨_, eS, rS HO_5, bS⟩

end Go.Proofs.Ytigodjcnkgebaaa.QFnMerges
