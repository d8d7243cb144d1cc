-- Made out of the translation by a program of this session (a changed copy of the print). Not trusted: Lean checks it.
import Derived.Test.YtigodjcnkgebaaaQFnExactRenderBandsx0
import Derived.Test.YtigodjcnkgebaaaQFnExactRenderBandsx10
import Derived.Test.YtigodjcnkgebaaaQFnExactRenderBandsx11
import Derived.Test.YtigodjcnkgebaaaQFnExactRenderBandsx12
namespace Go.Proofs.Ytigodjcnkgebaaa.QFnExactRenderBands
open Go.RowKit Go.Proofs.YtigodjcnkgebaaaW.PrintWords Go.Proofs.YtigodjcnkgebaaaW.PrintLast Go.Proofs.YtigodjcnkgebaaaW.PrintMore
attribute [local go_sem] max2_int min2_int max_two min_two max_three min_three max_four min_four   -- for this text's walks alone
set_option linter.unusedVariables false
set_option linter.unusedSimpArgs false
set_option maxHeartbeats 8000000
set_option maxRecDepth 100000

/-! ### spec_l08In: function 149 -/
def spec_l08In.l0 : Nat → List (S171) → Int → Int → Bool → Int → Option (Bool)
 | 0, _, _, _, _, _ => none
 | k + 1, x0, x1, x2, x7, x8 => if x8 < (x0.length : Int) then (if 0 ≤ x8 then (if (x0.length : Int) = 0 then (none) else (if 0 ≤ (Int.tmod (wrap64 (x8 + 1)) (x0.length : Int)) then (if (Int.tmod (wrap64 (x8 + 1)) (x0.length : Int)) < (x0.length : Int) then ((spec_l08Crosses.f ((rd_T171 x0 x8).f0) ((rd_T171 x0 x8).f1) ((rd_T171 x0 (Int.tmod (wrap64 (x8 + 1)) (x0.length : Int))).f0) ((rd_T171 x0 (Int.tmod (wrap64 (x8 + 1)) (x0.length : Int))).f1) x1 x2).bind fun t412 => (if t412 = true then (spec_l08In.l0 k x0 x1 x2 (!x7) (wrap64 (x8 + 1))) else (spec_l08In.l0 k x0 x1 x2 x7 (wrap64 (x8 + 1))))) else (none)) else (none))) else (none)) else (some x7)
def spec_l08In.f (k : Nat) (l0 : List (S171)) (a1 : Int) (a2 : Int) : Option (Bool) := spec_l08In.l0 k l0 a1 a2 false 0
def spec_l08In.T5 : Bool × List (List Nat × List Nat) := (true, [([], []), ([], []), ([0, 1], [0, 1]), ([2], [2]), ([], []), ([], []), ([5], [5]), ([], []), ([7], [7]), ([6, 8], [6, 8]), ([4, 9], [4, 9]), ([10], [10]), ([], []), ([], []), ([3, 11, 12, 13], [3, 11, 12, 13])])
def spec_l08In.B5 : List Nat := [0, 0, 3, 7, 0, 0, 32, 0, 128, 480, 1008, 2032, 0, 0, 16383]
theorem spec_l08In.tab5 : rtab .any (opsOf Try.f149 5) = spec_l08In.T5 := by kernel_rfl
theorem spec_l08In.bits5 : waitsOk spec_l08In.T5.2 spec_l08In.B5 = true := by kernel_rfl
theorem spec_l08In.calls (k : Nat) (A0 : Option Addr) (c0 : Nat) (l0 : List (S171)) (a1 : Int) (a2 : Int) (r : Bool) (w : World) (hr0 : Kd.C k171 w A0 l0.length l0) (hc0 : l0.length ≤ c0) (h : spec_l08In.f k l0 a1 a2 = some r) :
  Calls Try.prog 149 #[.slice A0 l0.length c0, .int .i64 a1, .int .i64 a2] w fun e w' => e = .returned (.bool r) ∧ Below w.heap.size w w' := by
 have hu171 := Try.underlying171
 have HR0 := Aside0.mk hr0
 have HC0 := Aside0.mk hc0
 clear hr0 hc0
 have HB := Aside0.mk (Below.refl w.heap.size w)
 have H : (spec_l08In.l0 k l0 a1 a2 false 0) = some r := h
 clear h
 have H' := Aside0.mk H
 clear H
 go_enter Try.func149, Try.ntmps149
 go_wp2
 go_loopg [7, 8] k (fun kq v7 v8 w' => ∃ (x7_1 : Bool) (x8_1 : Int), v7 = .bool x7_1 ∧ v8 = .int .i64 x8_1 ∧ Aside0 (spec_l08In.l0 kq l0 a1 a2 x7_1 x8_1 = some r) ∧ Aside0 (kq ≤ k) ∧ Aside0 (Below w.heap.size w w'))
 case atStart => exact ⟨(false), (0), fS, fS, H', ⟨Nat.le_refl _⟩, ⟨bS⟩⟩
 case round =>
  clear H'
  try clear c1
  try clear p2
  obtain ⟨x7_1, x8_1, rfl, rfl, HA, HK1, HB⟩ := hrel
  cases gk with
  | zero => exact absurd HA.out (by simp [spec_l08In.l0])
  | succ k1 =>
   have H := HA.out
   clear HA
   simp only [spec_l08In.l0] at H
   rcases iD H with ⟨c4b0, H⟩ | ⟨c4b0, H⟩
   ·obtain ⟨c5b0, H⟩ := iT H
    by_cases c6 : (l0.length : Int) = 0
    ·rw [if_pos c6] at H
     exact absurd H (by simp)
    ·rw [if_neg c6] at H
     have c6b0 : ((l0.length : Int) == 0) = false := beq_eq_false_iff_ne.mpr c6
     have c6b1 : ((l0.length : Int) != 0) = true := bne_iff_ne.mpr c6
     have c6b2 : ¬ (l0 = []) := fun h_ => c6 (by rw [h_]; rfl)
     obtain ⟨ji7, hji7⟩ : ∃ j_ : Int, (Int.tmod (wrap64 (x8_1 + 1)) (l0.length : Int)) = j_ := ⟨_, rfl⟩
     replace H : (if 0 ≤ (ji7) then (if (ji7) < (l0.length : Int) then ((spec_l08Crosses.f ((rd_T171 l0 x8_1).f0) ((rd_T171 l0 x8_1).f1) ((rd_T171 l0 (ji7)).f0) ((rd_T171 l0 (ji7)).f1) a1 a2).bind fun t412 => (if t412 = true then (spec_l08In.l0 k1 l0 a1 a2 (!x7_1) (wrap64 (x8_1 + 1))) else (spec_l08In.l0 k1 l0 a1 a2 x7_1 (wrap64 (x8_1 + 1))))) else (none)) else (none)) = some r := by first | (rw [hji7] at H; exact H) | (simp only [hji7] at H ⊢; exact H)
     obtain ⟨c8b0, H⟩ := iT H
     obtain ⟨c9b0, H⟩ := iT H
     replace H := bN H
     obtain ⟨t412, A10, H⟩ := H
     by_cases c11 : t412 = true
     ·subst c11
      rw [if_pos rfl] at H
      have H' := Aside0.mk H
      clear H
      try go_wp2
      replace HB := Aside0.mk (below_drew1 HB.out)
      have p410 : 0 ≤ (x8_1 : Int) := dA
      have q410 : x8_1 < (l0.length : Int) := dA
      obtain ⟨ad410, e410, hx410_0, hx410_1⟩ := at_T171 HR0.out x8_1 p410 q410
      have hw410_1 := hx410_1
      have hw410_0 := hx410_0
      cases e410
      replace hx410_0 := cB HB hx410_0
      replace hx410_1 := cB HB hx410_1
      replace p410 := eq_true p410
      replace q410 := eq_true q410
      have p411 : 0 ≤ ((ji7) : Int) := dA
      have q411 : (ji7) < (l0.length : Int) := dA
      obtain ⟨ad411, e411, hx411_0, hx411_1⟩ := at_T171 HR0.out (ji7) p411 q411
      have hw411_1 := hx411_1
      have hw411_0 := hx411_0
      obtain rfl : ad410 = ad411 := (by injection e411)
      replace hx411_0 := cB HB hx411_0
      replace hx411_1 := cB HB hx411_1
      replace p411 := eq_true p411
      replace q411 := eq_true q411
      refine start_ (n := 15) (S := fun w' => w'.cell? (ad410.add ((x8_1).toNat * 2)) = some (.int .i64 ((rd_T171 l0 x8_1).f0)) ∧ w'.cell? ⟨(ad410.add ((x8_1).toNat * 2)).block, (ad410.add ((x8_1).toNat * 2)).off + 1, none⟩ = some (.int .i64 ((rd_T171 l0 x8_1).f1)) ∧ w'.cell? (ad410.add (((ji7)).toNat * 2)) = some (.int .i64 ((rd_T171 l0 (ji7)).f0)) ∧ w'.cell? ⟨(ad410.add (((ji7)).toNat * 2)).block, (ad410.add (((ji7)).toNat * 2)).off + 1, none⟩ = some (.int .i64 ((rd_T171 l0 (ji7)).f1))) (ds := []) #[false, false, false, false, false, false, false, false, false, false, false, false, false, false, false] (by kernel_rfl) rfl rfl ⟨(cB HB hw410_0), (cB HB hw410_1), (cB HB hw411_0), (cB HB hw411_1)⟩ (fun hHeld => ?_); refine with_tabW spec_l08In.tab5 spec_l08In.bits5 (fun HT_ HW_ => ?_)
      generalize wr.drew = w12 at HB hx410_0 hx410_1 hx411_0 hx411_1 hHeld ⊢
      refine pU 0 (some 15) #[true, false, false, false, false, false, false, false, false, false, false, false, false, false, false] ?_
      refine pU 1 (some 16) #[true, true, false, false, false, false, false, false, false, false, false, false, false, false, false] ?_
      refine pU 2 (some 17) #[true, true, true, false, false, false, false, false, false, false, false, false, false, false, false] ?_
      refine pU 4 (some 19) #[true, true, true, false, true, false, false, false, false, false, false, false, false, false, false] ?_
      refine pU 5 (some 20) #[true, true, true, false, true, true, false, false, false, false, false, false, false, false, false] ?_
      refine pU 6 (some 21) #[true, true, true, false, true, true, true, false, false, false, false, false, false, false, false] ?_
      refine pU 7 (some 22) #[true, true, true, false, true, true, true, true, false, false, false, false, false, false, false] ?_
      refine pU 8 (some 23) #[true, true, true, false, true, true, true, true, true, false, false, false, false, false, false] ?_
      refine pU 9 (some 24) #[true, true, true, false, true, true, true, true, true, true, false, false, false, false, false] ?_
      refine pU 10 (some 25) #[true, true, true, false, true, true, true, true, true, true, true, false, false, false, false] ?_
      refine pU 12 (some 27) #[true, true, true, false, true, true, true, true, true, true, true, false, true, false, false] ?_
      refine pU 13 (some 28) #[true, true, true, false, true, true, true, true, true, true, true, false, true, true, false] ?_
      refine tK 3 (some 18) #[true, true, true, true, true, true, true, true, true, true, true, false, true, true, false] ?_
      refine tK 11 (some 26) #[true, true, true, true, true, true, true, true, true, true, true, true, true, true, false] ?_
      refine one_ (i := 14) (N := some 29) #[true, true, true, true, true, true, true, true, true, true, true, true, true, true, true] rfl rfl (one_of HT_.out (by kernel_rfl)) (by decide) (fun K hK => ?_)
      refine goes_ Try.func187 (by kernel_rfl) rfl #[.agg #[.int .i64 ((rd_T171 l0 x8_1).f0), .int .i64 ((rd_T171 l0 x8_1).f1)], .agg #[.int .i64 ((rd_T171 l0 (ji7)).f0), .int .i64 ((rd_T171 l0 (ji7)).f1)], .int .i64 a1, .int .i64 a2] (by rfl) rfl rfl (by (try simp only [List.map_toArray, List.map_cons, List.map_nil]); first | done | (simp only [hji7]; rfl) | rfl | (simp only [List.length_drop, List.length_take]; rfl)) ?_
      with_reducible refine (spec_l08Crosses.calls ((rd_T171 l0 x8_1).f0) ((rd_T171 l0 x8_1).f1) ((rd_T171 l0 (ji7)).f0) ((rd_T171 l0 (ji7)).f1) a1 a2 _ _ A10.out).mono ?_
      rintro e w13 ⟨rfl, hb⟩
      refine ⟨_, rfl, ?_⟩
      replace HB := hB hb
      (try clear hb)
      (try clear hb2)
      (try clear hk)
      (try clear hi)
      refine hK.out _ _ ⟨(cB HB hw410_0), (cB HB hw410_1), (cB HB hw411_0), (cB HB hw411_1)⟩ (fun hHeld => ?_)
      clear hK K
      refine norm_ (a' := ?_) ?_ ?_
      rotate_left
      ·show Act.put _ (some 29) _ = _
       simp only [Act.put, List.setIfInBounds_toArray, List.set_cons_zero, List.set_cons_succ, i64_w, i32_w]
       rfl
      refine done_ (done_of HT_.out (by kernel_rfl)) ?_
      try go_wp2
      go_roundg k1
      case measure => have := HK1.out; omega
      case rel => exact ⟨(!x7_1), (wrap64 (x8_1 + 1)), fS, fS, H', ⟨by have := HK1.out; omega⟩, ⟨bS⟩⟩
     ·obtain rfl := Bool.eq_false_iff.mpr c11
      rw [if_neg nF] at H
      have H' := Aside0.mk H
      clear H
      try go_wp2
      replace HB := Aside0.mk (below_drew1 HB.out)
      have p410 : 0 ≤ (x8_1 : Int) := dA
      have q410 : x8_1 < (l0.length : Int) := dA
      obtain ⟨ad410, e410, hx410_0, hx410_1⟩ := at_T171 HR0.out x8_1 p410 q410
      have hw410_1 := hx410_1
      have hw410_0 := hx410_0
      cases e410
      replace hx410_0 := cB HB hx410_0
      replace hx410_1 := cB HB hx410_1
      replace p410 := eq_true p410
      replace q410 := eq_true q410
      have p411 : 0 ≤ ((ji7) : Int) := dA
      have q411 : (ji7) < (l0.length : Int) := dA
      obtain ⟨ad411, e411, hx411_0, hx411_1⟩ := at_T171 HR0.out (ji7) p411 q411
      have hw411_1 := hx411_1
      have hw411_0 := hx411_0
      obtain rfl : ad410 = ad411 := (by injection e411)
      replace hx411_0 := cB HB hx411_0
      replace hx411_1 := cB HB hx411_1
      replace p411 := eq_true p411
      replace q411 := eq_true q411
      refine start_ (n := 15) (S := fun w' => w'.cell? (ad410.add ((x8_1).toNat * 2)) = some (.int .i64 ((rd_T171 l0 x8_1).f0)) ∧ w'.cell? ⟨(ad410.add ((x8_1).toNat * 2)).block, (ad410.add ((x8_1).toNat * 2)).off + 1, none⟩ = some (.int .i64 ((rd_T171 l0 x8_1).f1)) ∧ w'.cell? (ad410.add (((ji7)).toNat * 2)) = some (.int .i64 ((rd_T171 l0 (ji7)).f0)) ∧ w'.cell? ⟨(ad410.add (((ji7)).toNat * 2)).block, (ad410.add (((ji7)).toNat * 2)).off + 1, none⟩ = some (.int .i64 ((rd_T171 l0 (ji7)).f1))) (ds := []) #[false, false, false, false, false, false, false, false, false, false, false, false, false, false, false] (by kernel_rfl) rfl rfl ⟨(cB HB hw410_0), (cB HB hw410_1), (cB HB hw411_0), (cB HB hw411_1)⟩ (fun hHeld => ?_); refine with_tabW spec_l08In.tab5 spec_l08In.bits5 (fun HT_ HW_ => ?_)
      generalize wr.drew = w14 at HB hx410_0 hx410_1 hx411_0 hx411_1 hHeld ⊢
      refine pU 0 (some 15) #[true, false, false, false, false, false, false, false, false, false, false, false, false, false, false] ?_
      refine pU 1 (some 16) #[true, true, false, false, false, false, false, false, false, false, false, false, false, false, false] ?_
      refine pU 2 (some 17) #[true, true, true, false, false, false, false, false, false, false, false, false, false, false, false] ?_
      refine pU 4 (some 19) #[true, true, true, false, true, false, false, false, false, false, false, false, false, false, false] ?_
      refine pU 5 (some 20) #[true, true, true, false, true, true, false, false, false, false, false, false, false, false, false] ?_
      refine pU 6 (some 21) #[true, true, true, false, true, true, true, false, false, false, false, false, false, false, false] ?_
      refine pU 7 (some 22) #[true, true, true, false, true, true, true, true, false, false, false, false, false, false, false] ?_
      refine pU 8 (some 23) #[true, true, true, false, true, true, true, true, true, false, false, false, false, false, false] ?_
      refine pU 9 (some 24) #[true, true, true, false, true, true, true, true, true, true, false, false, false, false, false] ?_
      refine pU 10 (some 25) #[true, true, true, false, true, true, true, true, true, true, true, false, false, false, false] ?_
      refine pU 12 (some 27) #[true, true, true, false, true, true, true, true, true, true, true, false, true, false, false] ?_
      refine pU 13 (some 28) #[true, true, true, false, true, true, true, true, true, true, true, false, true, true, false] ?_
      refine tK 3 (some 18) #[true, true, true, true, true, true, true, true, true, true, true, false, true, true, false] ?_
      refine tK 11 (some 26) #[true, true, true, true, true, true, true, true, true, true, true, true, true, true, false] ?_
      refine one_ (i := 14) (N := some 29) #[true, true, true, true, true, true, true, true, true, true, true, true, true, true, true] rfl rfl (one_of HT_.out (by kernel_rfl)) (by decide) (fun K hK => ?_)
      refine goes_ Try.func187 (by kernel_rfl) rfl #[.agg #[.int .i64 ((rd_T171 l0 x8_1).f0), .int .i64 ((rd_T171 l0 x8_1).f1)], .agg #[.int .i64 ((rd_T171 l0 (ji7)).f0), .int .i64 ((rd_T171 l0 (ji7)).f1)], .int .i64 a1, .int .i64 a2] (by rfl) rfl rfl (by (try simp only [List.map_toArray, List.map_cons, List.map_nil]); first | done | (simp only [hji7]; rfl) | rfl | (simp only [List.length_drop, List.length_take]; rfl)) ?_
      with_reducible refine (spec_l08Crosses.calls ((rd_T171 l0 x8_1).f0) ((rd_T171 l0 x8_1).f1) ((rd_T171 l0 (ji7)).f0) ((rd_T171 l0 (ji7)).f1) a1 a2 _ _ A10.out).mono ?_
      rintro e w15 ⟨rfl, hb⟩
      refine ⟨_, rfl, ?_⟩
      replace HB := hB hb
      (try clear hb)
      (try clear hb2)
      (try clear hk)
      (try clear hi)
      refine hK.out _ _ ⟨(cB HB hw410_0), (cB HB hw410_1), (cB HB hw411_0), (cB HB hw411_1)⟩ (fun hHeld => ?_)
      clear hK K
      refine norm_ (a' := ?_) ?_ ?_
      rotate_left
      ·show Act.put _ (some 29) _ = _
       simp only [Act.put, List.setIfInBounds_toArray, List.set_cons_zero, List.set_cons_succ, i64_w, i32_w]
       rfl
      refine done_ (done_of HT_.out (by kernel_rfl)) ?_
      try go_wp2
      go_roundg k1
      case measure => have := HK1.out; omega
      case rel => exact ⟨(x7_1), (wrap64 (x8_1 + 1)), fS, fS, H', ⟨by have := HK1.out; omega⟩, ⟨bS⟩⟩
   ·obtain rfl := Option.some.inj H
    go_wp2
    go_ret
    exact ⟨eS, bS⟩

/-! ### spec_SpansAt: function 84 -/
mutual
def spec_SpansAt.j0 : Nat → List (S171) → Int → List (S124) → Bool → Option ((List (S124)))
 | 0, _, _, _, _ => none
 | k + 1, x0, x1, x5, x19 => if x19 = true then (some x5) else ((spec_BoxOf.f k x0).bind fun bt418 => (spec_SpansAt.l0 k x0 x1 x5 bt418.1 false bt418.1 bt418.1 bt418.2.1 bt418.2.2.1 bt418.2.2.2))
def spec_SpansAt.l0 : Nat → List (S171) → Int → List (S124) → Int → Bool → Int → Int → Int → Int → Int → Option ((List (S124)))
 | 0, _, _, _, _, _, _, _, _, _, _ => none
 | k + 1, x0, x1, x5, x7, x8, x9, x423000, x423001, x423002, x423003 => if x9 ≤ x423002 then ((spec_l08In.f k x0 x9 x1).bind fun t423 => (if t423 = true then (spec_SpansAt.j2 k x0 x1 x5 x7 x8 x9 t423 (!x8) x423000 x423001 x423002 x423003) else (spec_SpansAt.j2 k x0 x1 x5 x7 x8 x9 t423 false x423000 x423001 x423002 x423003))) else (some x5)
def spec_SpansAt.j2 : Nat → List (S171) → Int → List (S124) → Int → Bool → Int → Bool → Bool → Int → Int → Int → Int → Option ((List (S124)))
 | 0, _, _, _, _, _, _, _, _, _, _, _, _ => none
 | k + 1, x0, x1, x5, x7, x8, x9, x10, x41, x423000, x423001, x423002, x423003 => if x41 = true then (if x10 = true then (spec_SpansAt.l0 k x0 x1 x5 x9 x10 (wrap64 (x9 + 1)) x423000 x423001 x423002 x423003) else (if x8 = true then (if x5.length < 8796093022208 then (spec_SpansAt.l0 k x0 x1 (x5 ++ [(⟨x9, x9⟩ : S124)]) x9 x10 (wrap64 (x9 + 1)) x423000 x423001 x423002 x423003) else (none)) else (spec_SpansAt.l0 k x0 x1 x5 x9 x10 (wrap64 (x9 + 1)) x423000 x423001 x423002 x423003))) else (if x10 = true then (spec_SpansAt.l0 k x0 x1 x5 x7 x10 (wrap64 (x9 + 1)) x423000 x423001 x423002 x423003) else (if x8 = true then (if x5.length < 8796093022208 then (spec_SpansAt.l0 k x0 x1 (x5 ++ [(⟨x7, x9⟩ : S124)]) x7 x10 (wrap64 (x9 + 1)) x423000 x423001 x423002 x423003) else (none)) else (spec_SpansAt.l0 k x0 x1 x5 x7 x10 (wrap64 (x9 + 1)) x423000 x423001 x423002 x423003)))
end
def spec_SpansAt.f (k : Nat) (l0 : List (S171)) (a1 : Int) : Option ((List (S124))) := (some (([] : List (S124)) : List (S124))).bind fun y413 => ((spec_l07Points.f k l0).bind fun t416 => (if t416 = true then ((spec_l02In.f a1).bind fun t417 => (spec_SpansAt.j0 k l0 a1 y413 (!t417))) else (spec_SpansAt.j0 k l0 a1 y413 true)))
theorem spec_SpansAt.calls (k : Nat) (A0 : Option Addr) (c0 : Nat) (l0 : List (S171)) (a1 : Int) (r : List (S124)) (w : World) (hr0 : Kd.C k171 w A0 l0.length l0) (hc0 : l0.length ≤ c0) (h : spec_SpansAt.f k l0 a1 = some r) :
  Calls Try.prog 84 #[.slice A0 l0.length c0, .int .i64 a1] w fun e w' => ∃ v0_ : Value, e = .returned (v0_) ∧ Kd.R k124 124 w' w.heap.size (fun _ => True) v0_ r ∧ Below w.heap.size w w' := by
 have hu43 := Try.underlying43
 have hu124 := Try.underlying124
 have HR0 := Aside0.mk hr0
 have HC0 := Aside0.mk hc0
 clear hr0 hc0
 have HB := Aside0.mk (Below.refl w.heap.size w)
 have H : ((some (([] : List (S124)) : List (S124))).bind fun y413 => ((spec_l07Points.f k l0).bind fun t416 => (if t416 = true then ((spec_l02In.f a1).bind fun t417 => (spec_SpansAt.j0 k l0 a1 y413 (!t417))) else (spec_SpansAt.j0 k l0 a1 y413 true)))) = some r := h
 clear h
 obtain ⟨y413, hy413⟩ : ∃ y_ : List (S124), y_ = (([] : List (S124))) := ⟨_, rfl⟩
 replace H : ((spec_l07Points.f k l0).bind fun t416 => (if t416 = true then ((spec_l02In.f a1).bind fun t417 => (spec_SpansAt.j0 k l0 a1 y413 (!t417))) else (spec_SpansAt.j0 k l0 a1 y413 true))) = some r := by first | (rw [hy413]; with_reducible exact H) | (have H2_ := (Option.bind_some _ _).symm.trans H; rw [hy413]; with_reducible exact H2_) | (have H2_ := (Option.bind_some _ _).symm.trans H; with_reducible exact H2_) | with_reducible exact H | (rw [hy413]; exact H) | exact H
 have Ny413 := Aside0.mk hy413
 clear hy413
 have HC3 := Aside0.mk H
 clear H
 go_enter Try.func84, Try.ntmps84
 go_upto_region 2 with (first | ((with_reducible refine gate_dst (N := 11) rfl ?_); refine Kd.R_lit k124 _ 124 ?hg (N := 11) ?hd (xs := ([] : List (S124))) (inner := []) (ok := fun _ => True) (okp := fun _ => True) ?hr ?hp (fun _ hk => hk) trivial (Below.refl _ _) (Nat.le_refl _) (by simp) ?_; (case hd => rfl); (case hg => rfl); (case hr => first | (go_simp; done) | (go_simp; rfl)); (case hp => exact (Reps.none _ _)); intro v414 w4 ho5 hb hg_ hnew_; clear hg_ hnew_; (first | rw [← Ny413.out] at ho5 | (simp only [Int.reduceToNat] at ho5; rw [← Ny413.out] at ho5)); have HO415 := Aside0.mk (Kd.R_lower ho5 (below_size bS)); replace HB := hB hb; clear hb ho5))
 (try simp only [Act.put, List.setIfInBounds_toArray, List.set_cons_zero, List.set_cons_succ])
 go_cut [19] (fun v19 wc => ∃ (kq : Nat) (x19_2 : Bool), v19 = .bool x19_2 ∧ Aside0 (spec_SpansAt.j0 kq l0 a1 y413 x19_2 = some r) ∧ Aside0 (kq ≤ k) ∧ Aside0 (Kd.R k124 124 wc w.heap.size (fun _ => True) v414 y413) ∧ Aside0 (Below w.heap.size w wc))
 case first =>
  have H := HC3.out
  clear HC3
  replace H := bN H
  obtain ⟨t416, A6, H⟩ := H
  by_cases c7 : t416 = true
  ·subst c7
   rw [if_pos rfl] at H
   replace H := bN H
   obtain ⟨t417, A8, H⟩ := H
   have H' := Aside0.mk H
   clear H
   go_wp2_with (first | ((with_reducible refine gC 147 ?_); refine cL (some 13) Try.func147 #[.slice A0 l0.length c0] ?_; (with_reducible refine (spec_l07Points.calls k _ _ l0 _ _ (cS (Kd.C_below HR0.out HB.out)) HC0.out A6.out).mono ?_); rintro e w9 ⟨rfl, hb⟩; refine ⟨_, rfl, ?_⟩; replace HO415 := Aside0.mk (Kd.R_below (rS HO415) hb); replace HB := hB hb; (try clear hb); (try clear hb2); (try clear hk); (try clear hi)) | (go_at_call 148; (with_reducible refine (spec_l02In.calls a1 t417 _ A8.out).mono ?_); rintro e w' ⟨rfl, ⟨nd, rfl⟩⟩))
   go_meet
   case rel => exact ⟨_, (!t417), fS, H', ⟨by first | omega | exact Nat.le_refl _⟩, ⟨rS HO415⟩, ⟨bS⟩⟩
  ·obtain rfl := Bool.eq_false_iff.mpr c7
   rw [if_neg nF] at H
   have H' := Aside0.mk H
   clear H
   go_wp2_with (first | ((with_reducible refine gC 147 ?_); refine cL (some 13) Try.func147 #[.slice A0 l0.length c0] ?_; (with_reducible refine (spec_l07Points.calls k _ _ l0 _ _ (cS (Kd.C_below HR0.out HB.out)) HC0.out A6.out).mono ?_); rintro e w10 ⟨rfl, hb⟩; refine ⟨_, rfl, ?_⟩; replace HO415 := Aside0.mk (Kd.R_below (rS HO415) hb); replace HB := hB hb; (try clear hb); (try clear hb2); (try clear hk); (try clear hi)))
   go_meet
   case rel => exact ⟨_, (true), fS, H', ⟨by first | omega | exact Nat.le_refl _⟩, ⟨rS HO415⟩, ⟨bS⟩⟩
 case rest =>
  clear HC3
  try clear c1
  try clear p2
  try clear c7
  try clear c8
  obtain ⟨kq, x19_2, rfl, HA, HJ2, HO_5, HB⟩ := hcut
  cases kq with
  | zero => exact absurd HA.out (by simp [spec_SpansAt.j0])
  | succ kj2 =>
   have H := HA.out
   clear HA
   simp only [spec_SpansAt.j0] at H
   by_cases c11 : x19_2 = true
   ·subst c11
    rw [if_pos rfl] at H
    obtain rfl := Option.some.inj H
    go_wp2
    go_ret
    exact ⟨_, eS, rS HO_5, bS⟩
   ·obtain rfl := Bool.eq_false_iff.mpr c11
    rw [if_neg nF] at H
    replace H := bN H
    obtain ⟨⟨t418, t419, t420, t421⟩, A12, H⟩ := H
    have H' := Aside0.mk H
    clear H
    go_wp2_with (first | ((with_reducible refine gC 143 ?_); refine cL (some 22) Try.func143 #[.slice A0 l0.length c0] ?_; (with_reducible refine (spec_BoxOf.calls kj2 _ _ l0 t418 t419 t420 t421 _ (cS (Kd.C_below HR0.out HB.out)) HC0.out A12.out).mono ?_); rintro e w13 ⟨rfl, hb⟩; refine ⟨_, rfl, ?_⟩; replace HO_5 := Aside0.mk (Kd.R_below (rS HO_5) hb); replace HB := hB hb; (try clear hb); (try clear hb2); (try clear hk); (try clear hi)) | ((with_reducible refine gD 6 ?_); refine bxE #[.int .i64 0, .int .i64 0, .int .i64 0, .int .i64 0] 43 ?_; intro gb422 hg w14 BK422 hb; have GW422 := gE hg; have GE422 := gE hg; replace HO_5 := Aside0.mk (Kd.R_below (rS HO_5) hb); replace HB := hB hb; clear hb hg; have hcz15_0 : w14.cell? ⟨gb422, 0, none⟩ = some (.int .i64 0) := (blk_cell BK422.out 0).trans rfl; have hcz15_1 : w14.cell? ⟨gb422, 1, none⟩ = some (.int .i64 0) := (blk_cell BK422.out 1).trans rfl; have hcz15_2 : w14.cell? ⟨gb422, 2, none⟩ = some (.int .i64 0) := (blk_cell BK422.out 2).trans rfl; have hcz15_3 : w14.cell? ⟨gb422, 3, none⟩ = some (.int .i64 0) := (blk_cell BK422.out 3).trans rfl; have hfz15_0 := blk_frozen BK422.out 0; have hfz15_1 := blk_frozen BK422.out 1; have hfz15_2 := blk_frozen BK422.out 2; have hfz15_3 := blk_frozen BK422.out 3))
    go_loopg [5, 7, 8, 9] kj2 (fun kq v5 v7 v8 v9 w' => ∃ (x5_2 : List (S124)) (x7_2 : Int) (x8_2 : Bool) (x9_2 : Int), v7 = .int .i64 x7_2 ∧ v8 = .bool x8_2 ∧ v9 = .int .i64 x9_2 ∧ Aside0 (spec_SpansAt.l0 kq l0 a1 x5_2 x7_2 x8_2 x9_2 t418 t419 t420 t421 = some r) ∧ Aside0 (kq ≤ kj2) ∧ Aside0 (Kd.R k124 124 w' w.heap.size (fun _ => True) v5 x5_2) ∧ Aside0 (w'.heap[gb422]? = some (.cells #[.int .i64 t418, .int .i64 t419, .int .i64 t420, .int .i64 t421] 43 (0, 0))) ∧ Aside0 (Below w.heap.size w w'))
    case atStart => exact ⟨(y413), (t418), (false), (t418), fS, fS, fS, H', ⟨Nat.le_refl _⟩, ⟨by exact rT (Kd.R_mono (Kd.R_far (p := ⟨gb422, 3, none⟩) (Kd.R_far (p := ⟨gb422, 2, none⟩) (Kd.R_far (p := ⟨gb422, 1, none⟩) (Kd.R_far (p := ⟨gb422, 0, none⟩) (Kd.R_types HO_5.out BK422.out (by decide)) (fun _ hk => hk.2) (.int .i64 t418)) (fun _ hk => hk.2) (.int .i64 t419)) (fun _ hk => hk.2) (.int .i64 t420)) (fun _ hk => hk.2) (.int .i64 t421)) (fun _ hk => trivial))⟩, ⟨kS⟩, ⟨bS⟩⟩
    case round =>
     clear H'
     try clear c1
     try clear p2
     try clear c7
     try clear c8
     try clear c11
     try clear c14
     try clear hcz15_0
     try clear hcz15_1
     try clear hcz15_2
     try clear hcz15_3
     try clear hfz15_0
     try clear hfz15_1
     try clear hfz15_2
     try clear hfz15_3
     try clear p2
     obtain ⟨x5_2, x7_2, x8_2, x9_2, rfl, rfl, rfl, HA, HK2, HO_5, BK422, HB⟩ := hrel
     cases gk with
     | zero => exact absurd HA.out (by simp [spec_SpansAt.l0])
     | succ k2 =>
      have H := HA.out
      clear HA
      simp only [spec_SpansAt.l0] at H
      by_cases c16 : x9_2 ≤ t420
      ·rw [if_pos c16] at H
       have c16b0 : decide (x9_2 ≤ t420) = true := decide_eq_true c16
       clear c16
       replace H := bN H
       obtain ⟨t423, A17, H⟩ := H
       have HC18 := Aside0.mk H
       clear H
       have hcz19_0 : wr.cell? ⟨gb422, 0, none⟩ = some (.int .i64 t418) := (blk_cell BK422.out 0).trans rfl
       have hcz19_1 : wr.cell? ⟨gb422, 1, none⟩ = some (.int .i64 t419) := (blk_cell BK422.out 1).trans rfl
       have hcz19_2 : wr.cell? ⟨gb422, 2, none⟩ = some (.int .i64 t420) := (blk_cell BK422.out 2).trans rfl
       have hcz19_3 : wr.cell? ⟨gb422, 3, none⟩ = some (.int .i64 t421) := (blk_cell BK422.out 3).trans rfl
       have hfz19_0 := blk_frozen BK422.out 0
       have hfz19_1 := blk_frozen BK422.out 1
       have hfz19_2 := blk_frozen BK422.out 2
       have hfz19_3 := blk_frozen BK422.out 3
       go_upto_region 11 with (first | ((with_reducible refine gC 149 ?_); refine cL (some 36) Try.func149 #[.slice A0 l0.length c0, .int .i64 x9_2, .int .i64 a1] ?_; (with_reducible refine (spec_l08In.calls k2 _ _ l0 x9_2 a1 t423 _ (cS (Kd.C_below HR0.out HB.out)) HC0.out A17.out).mono ?_); rintro e w20 ⟨rfl, hb⟩; refine ⟨_, rfl, ?_⟩; replace HO_5 := Aside0.mk (Kd.R_below (rS HO_5) hb); replace BK422 := kB (g := gb422) hb; replace HB := hB hb; (try clear hb); (try clear hb2); (try clear hk); (try clear hi)))
       (try simp only [Act.put, List.setIfInBounds_toArray, List.set_cons_zero, List.set_cons_succ])
       go_cut [41] (fun v41 wc => ∃ (kq : Nat) (x41_17 : Bool), v41 = .bool x41_17 ∧ Aside0 (spec_SpansAt.j2 kq l0 a1 x5_2 x7_2 x8_2 x9_2 t423 x41_17 t418 t419 t420 t421 = some r) ∧ Aside0 (kq ≤ k2) ∧ Aside0 (Kd.R k124 124 wc w.heap.size (fun _ => True) u5 x5_2) ∧ Aside0 (wc.heap[gb422]? = some (.cells #[.int .i64 t418, .int .i64 t419, .int .i64 t420, .int .i64 t421] 43 (0, 0))) ∧ Aside0 (Below w.heap.size w wc))
       case first =>
        have H := HC18.out
        clear HC18
        by_cases c21 : t423 = true
        ·subst c21
         rw [if_pos rfl] at H
         have H' := Aside0.mk H
         clear H
         go_wp2
         go_meet
         case rel => exact ⟨_, (!x8_2), fS, H', ⟨by have := HJ2.out; have := HK2.out; first | omega | exact Nat.le_refl _⟩, ⟨rS HO_5⟩, ⟨kS⟩, ⟨bS⟩⟩
        ·obtain rfl := Bool.eq_false_iff.mpr c21
         rw [if_neg nF] at H
         have H' := Aside0.mk H
         clear H
         go_wp2
         go_meet
         case rel => exact ⟨_, (false), fS, H', ⟨by have := HJ2.out; have := HK2.out; first | omega | exact Nat.le_refl _⟩, ⟨rS HO_5⟩, ⟨kS⟩, ⟨bS⟩⟩
       case rest =>
        clear HC18
        try clear c1
        try clear c2
        try clear p2
        try clear c7
        try clear c8
        try clear c11
        try clear c14
        try clear c16
        try clear c16b0
        try clear c21
        try clear hcz15_0
        try clear hcz15_1
        try clear hcz15_2
        try clear hcz15_3
        try clear hcz19_0
        try clear hcz19_1
        try clear hcz19_2
        try clear hcz19_3
        try clear hfz15_0
        try clear hfz15_1
        try clear hfz15_2
        try clear hfz15_3
        try clear hfz19_0
        try clear hfz19_1
        try clear hfz19_2
        try clear hfz19_3
        try clear p2
        obtain ⟨kq, x41_17, rfl, HA, HJ17, HO_5, BK422, HB⟩ := hcut
        cases kq with
        | zero => exact absurd HA.out (by simp [spec_SpansAt.j2])
        | succ kj17 =>
         have H := HA.out
         clear HA
         simp only [spec_SpansAt.j2] at H
         by_cases c22 : x41_17 = true
         ·subst c22
          rw [if_pos rfl] at H
          by_cases c23 : t423 = true
          ·subst c23
           rw [if_pos rfl] at H
           have H' := Aside0.mk H
           clear H
           go_wp2
           go_roundg kj17
           case measure => have := HJ2.out; have := HK2.out; have := HJ17.out; omega
           case rel => exact ⟨(x5_2), (x9_2), (true), (wrap64 (x9_2 + 1)), fS, fS, fS, H', ⟨by have := HJ2.out; have := HK2.out; have := HJ17.out; omega⟩, ⟨rS HO_5⟩, ⟨kS⟩, ⟨bS⟩⟩
          ·obtain rfl := Bool.eq_false_iff.mpr c23
           rw [if_neg nF] at H
           by_cases c24 : x8_2 = true
           ·subst c24
            rw [if_pos rfl] at H
            obtain ⟨LMc25, H⟩ := iL H
            obtain ⟨y424, hy424⟩ : ∃ y_ : List (S124), y_ = (x5_2 ++ [(⟨x9_2, x9_2⟩ : S124)]) := ⟨_, rfl⟩
            replace H : (spec_SpansAt.l0 kj17 l0 a1 y424 x9_2 false (wrap64 (x9_2 + 1)) t418 t419 t420 t421) = some r := by first | (rw [hy424]; with_reducible exact H) | (have H2_ := (Option.bind_some _ _).symm.trans H; rw [hy424]; with_reducible exact H2_) | (have H2_ := (Option.bind_some _ _).symm.trans H; with_reducible exact H2_) | with_reducible exact H | (rw [hy424]; exact H) | exact H
            have Ny424 := Aside0.mk hy424
            clear hy424
            have H' := Aside0.mk H
            clear H
            go_wp2_with (first | ((with_reducible refine gate_builtin (b := .append) (xs := #[.tmp 48, .tmp 52]) rfl ?_); at_builtin; refine Kd.R_append k124 (w0 := w) w.heap.size rfl (.tmp 48) (.tmp 52) 40 124 (.agg #[(.int .i64 0), (.int .i64 0)]) 16 rfl Try.underlying40 info124 rfl (by decide) (by omega) u5 x5_2 (⟨x9_2, x9_2⟩ : S124) [.int .i64 x9_2, .int .i64 x9_2] (fun _ => True) (fun _ => False) rfl rfl ?aP (fun _ hk => hk.elim) ?aF ?aO ?aB ?aS ?aL ?_; (case aP => exact k124_mkM _ _ _ (⟨x9_2, x9_2⟩ : S124)); (case aB => exact bS); (case aF => exact (fun _ _ => trivial)); (case aO => exact (rS HO_5)); (case aS => exact (below_size bS)); (case aL => have := LMc25.out; omega); intro v425 w26 ho hb hg hat; rw [← Ny424.out] at ho; have HO426 := Aside0.mk (ho); replace BK422 := Aside0.mk (blk_grown (g := gb422) kS hg (Kd.R_ne HO_5.out BK422.out (by decide))); replace HB := Aside0.mk (hb); clear HO_5; clear ho hb hg hat))
            go_roundg kj17
            case measure => have := HJ2.out; have := HK2.out; have := HJ17.out; omega
            case rel => exact ⟨(y424), (x9_2), (false), (wrap64 (x9_2 + 1)), fS, fS, fS, H', ⟨by have := HJ2.out; have := HK2.out; have := HJ17.out; omega⟩, ⟨rS HO426⟩, ⟨kS⟩, ⟨bS⟩⟩
           ·obtain rfl := Bool.eq_false_iff.mpr c24
            rw [if_neg nF] at H
            have H' := Aside0.mk H
            clear H
            go_wp2
            go_roundg kj17
            case measure => have := HJ2.out; have := HK2.out; have := HJ17.out; omega
            case rel => exact ⟨(x5_2), (x9_2), (false), (wrap64 (x9_2 + 1)), fS, fS, fS, H', ⟨by have := HJ2.out; have := HK2.out; have := HJ17.out; omega⟩, ⟨rS HO_5⟩, ⟨kS⟩, ⟨bS⟩⟩
         ·obtain rfl := Bool.eq_false_iff.mpr c22
          rw [if_neg nF] at H
          by_cases c27 : t423 = true
          ·subst c27
           rw [if_pos rfl] at H
           have H' := Aside0.mk H
           clear H
           go_wp2
           go_roundg kj17
           case measure => have := HJ2.out; have := HK2.out; have := HJ17.out; omega
           case rel => exact ⟨(x5_2), (x7_2), (true), (wrap64 (x9_2 + 1)), fS, fS, fS, H', ⟨by have := HJ2.out; have := HK2.out; have := HJ17.out; omega⟩, ⟨rS HO_5⟩, ⟨kS⟩, ⟨bS⟩⟩
          ·obtain rfl := Bool.eq_false_iff.mpr c27
           rw [if_neg nF] at H
           by_cases c28 : x8_2 = true
           ·subst c28
            rw [if_pos rfl] at H
            obtain ⟨LMc29, H⟩ := iL H
            obtain ⟨y427, hy427⟩ : ∃ y_ : List (S124), y_ = (x5_2 ++ [(⟨x7_2, x9_2⟩ : S124)]) := ⟨_, rfl⟩
            replace H : (spec_SpansAt.l0 kj17 l0 a1 y427 x7_2 false (wrap64 (x9_2 + 1)) t418 t419 t420 t421) = some r := by first | (rw [hy427]; with_reducible exact H) | (have H2_ := (Option.bind_some _ _).symm.trans H; rw [hy427]; with_reducible exact H2_) | (have H2_ := (Option.bind_some _ _).symm.trans H; with_reducible exact H2_) | with_reducible exact H | (rw [hy427]; exact H) | exact H
            have Ny427 := Aside0.mk hy427
            clear hy427
            have H' := Aside0.mk H
            clear H
            go_wp2_with (first | ((with_reducible refine gate_builtin (b := .append) (xs := #[.tmp 48, .tmp 52]) rfl ?_); at_builtin; refine Kd.R_append k124 (w0 := w) w.heap.size rfl (.tmp 48) (.tmp 52) 40 124 (.agg #[(.int .i64 0), (.int .i64 0)]) 16 rfl Try.underlying40 info124 rfl (by decide) (by omega) u5 x5_2 (⟨x7_2, x9_2⟩ : S124) [.int .i64 x7_2, .int .i64 x9_2] (fun _ => True) (fun _ => False) rfl rfl ?aP (fun _ hk => hk.elim) ?aF ?aO ?aB ?aS ?aL ?_; (case aP => exact k124_mkM _ _ _ (⟨x7_2, x9_2⟩ : S124)); (case aB => exact bS); (case aF => exact (fun _ _ => trivial)); (case aO => exact (rS HO_5)); (case aS => exact (below_size bS)); (case aL => have := LMc29.out; omega); intro v428 w30 ho hb hg hat; rw [← Ny427.out] at ho; have HO429 := Aside0.mk (ho); replace BK422 := Aside0.mk (blk_grown (g := gb422) kS hg (Kd.R_ne HO_5.out BK422.out (by decide))); replace HB := Aside0.mk (hb); clear HO_5; clear ho hb hg hat))
            go_roundg kj17
            case measure => have := HJ2.out; have := HK2.out; have := HJ17.out; omega
            case rel => exact ⟨(y427), (x7_2), (false), (wrap64 (x9_2 + 1)), fS, fS, fS, H', ⟨by have := HJ2.out; have := HK2.out; have := HJ17.out; omega⟩, ⟨rS HO429⟩, ⟨kS⟩, ⟨bS⟩⟩
           ·obtain rfl := Bool.eq_false_iff.mpr c28
            rw [if_neg nF] at H
            have H' := Aside0.mk H
            clear H
            go_wp2
            go_roundg kj17
            case measure => have := HJ2.out; have := HK2.out; have := HJ17.out; omega
            case rel => exact ⟨(x5_2), (x7_2), (false), (wrap64 (x9_2 + 1)), fS, fS, fS, H', ⟨by have := HJ2.out; have := HK2.out; have := HJ17.out; omega⟩, ⟨rS HO_5⟩, ⟨kS⟩, ⟨bS⟩⟩
      ·rw [if_neg c16] at H
       have c16b0 : decide (x9_2 ≤ t420) = false := decide_eq_false c16
       clear c16
       obtain rfl := Option.some.inj H
       have hz31 := cz4 BK422
       go_wp2
       go_ret
       exact ⟨_, eS, rS HO_5, bS⟩

end Go.Proofs.Ytigodjcnkgebaaa.QFnExactRenderBands
