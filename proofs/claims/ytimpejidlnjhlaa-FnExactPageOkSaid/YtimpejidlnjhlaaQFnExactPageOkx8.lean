-- Made out of the translation by a program of this session (a changed copy of the print). Not trusted: Lean checks it.
import Derived.Test.YtimpejidlnjhlaaQFnExactPageOkx0
import Derived.Test.YtimpejidlnjhlaaQFnExactPageOkx7
namespace Go.Proofs.Ytimpejidlnjhlaa.QFnExactPageOk
open Go.RowKit Go.Proofs.YtimpejidlnjhlaaW.PrintWords Go.Proofs.YtimpejidlnjhlaaW.PrintLast Go.Proofs.YtimpejidlnjhlaaW.PrintMore
attribute [local go_sem] max2_int min2_int max_two min_two max_three min_three max_four min_four   -- for this text's walks alone
set_option linter.unusedVariables false
set_option linter.unusedSimpArgs false
set_option maxHeartbeats 8000000
set_option maxRecDepth 100000

/-! ### laws_eqObjectS: function 39 -/
def laws_eqObjectS.l0 : Nat → List (S41) → List (S41) → Int → Option (Bool)
 | 0, _, _, _ => none
 | k + 1, x0, x1, x5 => if x5 < (x0.length : Int) then (if 0 ≤ x5 then (if x5 < (x1.length : Int) then ((laws_eqObject.f k ((rd_T41 x0 x5).f0) ((rd_T41 x0 x5).f1) ((rd_T41 x0 x5).f2.f0) ((rd_T41 x0 x5).f2.f1) ((rd_T41 x0 x5).f2.f2) ((rd_T41 x0 x5).f2.f3) ((rd_T41 x1 x5).f0) ((rd_T41 x1 x5).f1) ((rd_T41 x1 x5).f2.f0) ((rd_T41 x1 x5).f2.f1) ((rd_T41 x1 x5).f2.f2) ((rd_T41 x1 x5).f2.f3)).bind fun t304 => (if t304 = true then (laws_eqObjectS.l0 k x0 x1 (wrap64 (x5 + 1))) else (some false))) else (none)) else (none)) else (some true)
def laws_eqObjectS.f (k : Nat) (l0 : List (S41)) (l1 : List (S41)) : Option (Bool) := if (l0.length : Int) = (l1.length : Int) then (laws_eqObjectS.l0 k l0 l1 0) else (some false)
def laws_eqObjectS.T6 : Bool × List (List Nat × List Nat) := (true, [([], []), ([], []), ([0, 1], [0, 1]), ([2], [2]), ([], []), ([], []), ([4, 5], [4, 5]), ([6], [6]), ([3, 7], [3, 7]), ([8], [8])])
def laws_eqObjectS.B6 : List Nat := [0, 0, 3, 7, 0, 0, 48, 112, 255, 511]
theorem laws_eqObjectS.tab6 : rtab .any (opsOf Try.f39 6) = laws_eqObjectS.T6 := by kernel_rfl
theorem laws_eqObjectS.bits6 : waitsOk laws_eqObjectS.T6.2 laws_eqObjectS.B6 = true := by kernel_rfl
theorem laws_eqObjectS.calls (k : Nat) (A0 : Option Addr) (c0 : Nat) (l0 : List (S41)) (A1 : Option Addr) (c1 : Nat) (l1 : List (S41)) (r : Bool) (w : World) (hr0 : Kd.C k41 w A0 l0.length l0) (hc0 : l0.length ≤ c0) (hr1 : Kd.C k41 w A1 l1.length l1) (hc1 : l1.length ≤ c1) (h : laws_eqObjectS.f k l0 l1 = some r) :
  Calls Try.prog 39 #[.slice A0 l0.length c0, .slice A1 l1.length c1] w fun e w' => e = .returned (.bool r) ∧ Below w.heap.size w w' := by
 have hu41 := Try.underlying41
 have HR0 := Aside0.mk hr0
 have HC0 := Aside0.mk hc0
 clear hr0 hc0
 have HR1 := Aside0.mk hr1
 have HC1 := Aside0.mk hc1
 clear hr1 hc1
 have HB := Aside0.mk (Below.refl w.heap.size w)
 have H : (if (l0.length : Int) = (l1.length : Int) then (laws_eqObjectS.l0 k l0 l1 0) else (some false)) = some r := h
 clear h
 by_cases c3 : (l0.length : Int) = (l1.length : Int)
 ·rw [if_pos c3] at H
  have c3b0 : ((l0.length : Int) == (l1.length : Int)) = true := beq_iff_eq.mpr c3
  have c3b1 : ((l0.length : Int) != (l1.length : Int)) = false := bne_eq_false_iff_eq.mpr c3
  have c3b2 : (l0.length == l1.length) = true := by first | simpa using c3 | (simp at c3 ⊢; omega)
  clear c3
  have H' := Aside0.mk H
  clear H
  go_enter Try.func39, Try.ntmps39
  go_wp2
  go_loopg [5] k (fun kq v5 w' => ∃ (x5_1 : Int), v5 = .int .i64 x5_1 ∧ Aside0 (laws_eqObjectS.l0 kq l0 l1 x5_1 = some r) ∧ Aside0 (kq ≤ k) ∧ Aside0 (Below w.heap.size w w'))
  case atStart => exact ⟨(0), fS, H', ⟨Nat.le_refl _⟩, ⟨bS⟩⟩
  case round =>
   clear H'
   try clear c1
   try clear p2
   try clear c3
   try clear c3b0
   try clear c3b1
   try clear c3b2
   obtain ⟨x5_1, rfl, HA, HK1, HB⟩ := hrel
   cases gk with
   | zero => exact absurd HA.out (by simp [laws_eqObjectS.l0])
   | succ k1 =>
    have H := HA.out
    clear HA
    simp only [laws_eqObjectS.l0] at H
    rcases iD H with ⟨c4b0, H⟩ | ⟨c4b0, H⟩
    ·obtain ⟨c5b0, H⟩ := iT H
     obtain ⟨c6b0, H⟩ := iT H
     replace H := bN H
     obtain ⟨t304, A7, H⟩ := H
     by_cases c8 : t304 = true
     ·subst c8
      rw [if_pos rfl] at H
      have H' := Aside0.mk H
      clear H
      try go_wp2
      replace HB := Aside0.mk (below_drew1 HB.out)
      have p302 : 0 ≤ (x5_1 : Int) := dA
      have q302 : x5_1 < (l0.length : Int) := dA
      obtain ⟨ad302, A302_0, c302_0, e302, hx302_0, hx302_1, hx302_2, hx302_3, hx302_4, hx302_5, hl302_0, hi302_0⟩ := at_T41 HR0.out x5_1 p302 q302
      have hw302_5 := hx302_5
      have hw302_4 := hx302_4
      have hw302_3 := hx302_3
      have hw302_2 := hx302_2
      have hw302_1 := hx302_1
      have hw302_0 := hx302_0
      cases e302
      replace hx302_0 := cB HB hx302_0
      replace hx302_1 := cB HB hx302_1
      replace hx302_2 := cB HB hx302_2
      replace hx302_3 := cB HB hx302_3
      replace hx302_4 := cB HB hx302_4
      replace hx302_5 := cB HB hx302_5
      have HR302_0 := Aside0.mk hi302_0
      have HC302_0 := Aside0.mk hl302_0
      clear hi302_0 hl302_0
      replace p302 := eq_true p302
      replace q302 := eq_true q302
      have p303 : 0 ≤ (x5_1 : Int) := dA
      have q303 : x5_1 < (l1.length : Int) := dA
      obtain ⟨ad303, A303_0, c303_0, e303, hx303_0, hx303_1, hx303_2, hx303_3, hx303_4, hx303_5, hl303_0, hi303_0⟩ := at_T41 HR1.out x5_1 p303 q303
      have hw303_5 := hx303_5
      have hw303_4 := hx303_4
      have hw303_3 := hx303_3
      have hw303_2 := hx303_2
      have hw303_1 := hx303_1
      have hw303_0 := hx303_0
      cases e303
      replace hx303_0 := cB HB hx303_0
      replace hx303_1 := cB HB hx303_1
      replace hx303_2 := cB HB hx303_2
      replace hx303_3 := cB HB hx303_3
      replace hx303_4 := cB HB hx303_4
      replace hx303_5 := cB HB hx303_5
      have HR303_0 := Aside0.mk hi303_0
      have HC303_0 := Aside0.mk hl303_0
      clear hi303_0 hl303_0
      replace p303 := eq_true p303
      replace q303 := eq_true q303
      refine start_ (n := 10) (S := fun w' => w'.cell? (ad302.add ((x5_1).toNat * 6)) = some (.slice A302_0 ((rd_T41 l0 x5_1).f0).length c302_0) ∧ w'.cell? ⟨(ad302.add ((x5_1).toNat * 6)).block, (ad302.add ((x5_1).toNat * 6)).off + 1, none⟩ = some (.int .i64 ((rd_T41 l0 x5_1).f1)) ∧ w'.cell? ⟨(ad302.add ((x5_1).toNat * 6)).block, (ad302.add ((x5_1).toNat * 6)).off + 2, none⟩ = some (.int .i64 ((rd_T41 l0 x5_1).f2.f0)) ∧ w'.cell? ⟨(ad302.add ((x5_1).toNat * 6)).block, (ad302.add ((x5_1).toNat * 6)).off + 3, none⟩ = some (.int .i64 ((rd_T41 l0 x5_1).f2.f1)) ∧ w'.cell? ⟨(ad302.add ((x5_1).toNat * 6)).block, (ad302.add ((x5_1).toNat * 6)).off + 4, none⟩ = some (.int .i64 ((rd_T41 l0 x5_1).f2.f2)) ∧ w'.cell? ⟨(ad302.add ((x5_1).toNat * 6)).block, (ad302.add ((x5_1).toNat * 6)).off + 5, none⟩ = some (.int .i64 ((rd_T41 l0 x5_1).f2.f3)) ∧ w'.cell? (ad303.add ((x5_1).toNat * 6)) = some (.slice A303_0 ((rd_T41 l1 x5_1).f0).length c303_0) ∧ w'.cell? ⟨(ad303.add ((x5_1).toNat * 6)).block, (ad303.add ((x5_1).toNat * 6)).off + 1, none⟩ = some (.int .i64 ((rd_T41 l1 x5_1).f1)) ∧ w'.cell? ⟨(ad303.add ((x5_1).toNat * 6)).block, (ad303.add ((x5_1).toNat * 6)).off + 2, none⟩ = some (.int .i64 ((rd_T41 l1 x5_1).f2.f0)) ∧ w'.cell? ⟨(ad303.add ((x5_1).toNat * 6)).block, (ad303.add ((x5_1).toNat * 6)).off + 3, none⟩ = some (.int .i64 ((rd_T41 l1 x5_1).f2.f1)) ∧ w'.cell? ⟨(ad303.add ((x5_1).toNat * 6)).block, (ad303.add ((x5_1).toNat * 6)).off + 4, none⟩ = some (.int .i64 ((rd_T41 l1 x5_1).f2.f2)) ∧ w'.cell? ⟨(ad303.add ((x5_1).toNat * 6)).block, (ad303.add ((x5_1).toNat * 6)).off + 5, none⟩ = some (.int .i64 ((rd_T41 l1 x5_1).f2.f3))) (ds := []) #[false, false, false, false, false, false, false, false, false, false] (by kernel_rfl) rfl rfl ⟨(cB HB hw302_0), (cB HB hw302_1), (cB HB hw302_2), (cB HB hw302_3), (cB HB hw302_4), (cB HB hw302_5), (cB HB hw303_0), (cB HB hw303_1), (cB HB hw303_2), (cB HB hw303_3), (cB HB hw303_4), (cB HB hw303_5)⟩ (fun hHeld => ?_); refine with_tabW laws_eqObjectS.tab6 laws_eqObjectS.bits6 (fun HT_ HW_ => ?_)
      generalize wr.drew = w9 at HB HR302_0 HR303_0 hx302_0 hx302_1 hx302_2 hx302_3 hx302_4 hx302_5 hx303_0 hx303_1 hx303_2 hx303_3 hx303_4 hx303_5 hHeld ⊢
      refine pU 0 (some 17) #[true, false, false, false, false, false, false, false, false, false] ?_
      refine pU 1 (some 18) #[true, true, false, false, false, false, false, false, false, false] ?_
      refine pU 2 (some 19) #[true, true, true, false, false, false, false, false, false, false] ?_
      refine pU 4 (some 21) #[true, true, true, false, true, false, false, false, false, false] ?_
      refine pU 5 (some 22) #[true, true, true, false, true, true, false, false, false, false] ?_
      refine pU 6 (some 23) #[true, true, true, false, true, true, true, false, false, false] ?_
      refine tK 3 (some 20) #[true, true, true, true, true, true, true, false, false, false] ?_
      refine tK 7 (some 24) #[true, true, true, true, true, true, true, true, false, false] ?_
      refine one_ (i := 8) (N := some 25) #[true, true, true, true, true, true, true, true, true, false] rfl rfl (one_of HT_.out (by kernel_rfl)) (by decide) (fun K hK => ?_)
      refine goes_ Try.func73 (by kernel_rfl) rfl #[.agg #[.slice A302_0 ((rd_T41 l0 x5_1).f0).length c302_0, .int .i64 ((rd_T41 l0 x5_1).f1), .int .i64 ((rd_T41 l0 x5_1).f2.f0), .int .i64 ((rd_T41 l0 x5_1).f2.f1), .int .i64 ((rd_T41 l0 x5_1).f2.f2), .int .i64 ((rd_T41 l0 x5_1).f2.f3)], .agg #[.slice A303_0 ((rd_T41 l1 x5_1).f0).length c303_0, .int .i64 ((rd_T41 l1 x5_1).f1), .int .i64 ((rd_T41 l1 x5_1).f2.f0), .int .i64 ((rd_T41 l1 x5_1).f2.f1), .int .i64 ((rd_T41 l1 x5_1).f2.f2), .int .i64 ((rd_T41 l1 x5_1).f2.f3)]] (by rfl) rfl rfl (by (try simp only [List.map_toArray, List.map_cons, List.map_nil]); first | done | rfl | (simp only [List.length_drop, List.length_take]; rfl)) ?_
      with_reducible refine (laws_eqObject.calls k1 _ _ ((rd_T41 l0 x5_1).f0) ((rd_T41 l0 x5_1).f1) ((rd_T41 l0 x5_1).f2.f0) ((rd_T41 l0 x5_1).f2.f1) ((rd_T41 l0 x5_1).f2.f2) ((rd_T41 l0 x5_1).f2.f3) _ _ ((rd_T41 l1 x5_1).f0) ((rd_T41 l1 x5_1).f1) ((rd_T41 l1 x5_1).f2.f0) ((rd_T41 l1 x5_1).f2.f1) ((rd_T41 l1 x5_1).f2.f2) ((rd_T41 l1 x5_1).f2.f3) _ _ ?side1 ?side2 ?side3 ?side4 A7.out).mono ?_
      (case side1 => exact cS (Kd.C_below HR302_0.out HB.out))
      (case side2 => exact HC302_0.out)
      (case side3 => exact cS (Kd.C_below HR303_0.out HB.out))
      (case side4 => exact HC303_0.out)
      rintro e w10 ⟨rfl, hb⟩
      refine ⟨_, rfl, ?_⟩
      replace HB := hB hb
      (try clear hb)
      (try clear hb2)
      (try clear hk)
      (try clear hi)
      refine hK.out _ _ ⟨(cB HB hw302_0), (cB HB hw302_1), (cB HB hw302_2), (cB HB hw302_3), (cB HB hw302_4), (cB HB hw302_5), (cB HB hw303_0), (cB HB hw303_1), (cB HB hw303_2), (cB HB hw303_3), (cB HB hw303_4), (cB HB hw303_5)⟩ (fun hHeld => ?_)
      clear hK K
      refine norm_ (a' := ?_) ?_ ?_
      rotate_left
      ·show Act.put _ (some 25) _ = _
       simp only [Act.put, List.setIfInBounds_toArray, List.set_cons_zero, List.set_cons_succ, i64_w, i32_w]
       rfl
      refine pU 9 (some 26) #[true, true, true, true, true, true, true, true, true, true] ?_
      refine done_ (done_of HT_.out (by kernel_rfl)) ?_
      try go_wp2
      go_roundg k1
      case measure => have := HK1.out; omega
      case rel => exact ⟨(wrap64 (x5_1 + 1)), fS, H', ⟨by have := HK1.out; omega⟩, ⟨bS⟩⟩
     ·obtain rfl := Bool.eq_false_iff.mpr c8
      rw [if_neg nF] at H
      obtain rfl := Option.some.inj H
      try go_wp2
      replace HB := Aside0.mk (below_drew1 HB.out)
      have p302 : 0 ≤ (x5_1 : Int) := dA
      have q302 : x5_1 < (l0.length : Int) := dA
      obtain ⟨ad302, A302_0, c302_0, e302, hx302_0, hx302_1, hx302_2, hx302_3, hx302_4, hx302_5, hl302_0, hi302_0⟩ := at_T41 HR0.out x5_1 p302 q302
      have hw302_5 := hx302_5
      have hw302_4 := hx302_4
      have hw302_3 := hx302_3
      have hw302_2 := hx302_2
      have hw302_1 := hx302_1
      have hw302_0 := hx302_0
      cases e302
      replace hx302_0 := cB HB hx302_0
      replace hx302_1 := cB HB hx302_1
      replace hx302_2 := cB HB hx302_2
      replace hx302_3 := cB HB hx302_3
      replace hx302_4 := cB HB hx302_4
      replace hx302_5 := cB HB hx302_5
      have HR302_0 := Aside0.mk hi302_0
      have HC302_0 := Aside0.mk hl302_0
      clear hi302_0 hl302_0
      replace p302 := eq_true p302
      replace q302 := eq_true q302
      have p303 : 0 ≤ (x5_1 : Int) := dA
      have q303 : x5_1 < (l1.length : Int) := dA
      obtain ⟨ad303, A303_0, c303_0, e303, hx303_0, hx303_1, hx303_2, hx303_3, hx303_4, hx303_5, hl303_0, hi303_0⟩ := at_T41 HR1.out x5_1 p303 q303
      have hw303_5 := hx303_5
      have hw303_4 := hx303_4
      have hw303_3 := hx303_3
      have hw303_2 := hx303_2
      have hw303_1 := hx303_1
      have hw303_0 := hx303_0
      cases e303
      replace hx303_0 := cB HB hx303_0
      replace hx303_1 := cB HB hx303_1
      replace hx303_2 := cB HB hx303_2
      replace hx303_3 := cB HB hx303_3
      replace hx303_4 := cB HB hx303_4
      replace hx303_5 := cB HB hx303_5
      have HR303_0 := Aside0.mk hi303_0
      have HC303_0 := Aside0.mk hl303_0
      clear hi303_0 hl303_0
      replace p303 := eq_true p303
      replace q303 := eq_true q303
      refine start_ (n := 10) (S := fun w' => w'.cell? (ad302.add ((x5_1).toNat * 6)) = some (.slice A302_0 ((rd_T41 l0 x5_1).f0).length c302_0) ∧ w'.cell? ⟨(ad302.add ((x5_1).toNat * 6)).block, (ad302.add ((x5_1).toNat * 6)).off + 1, none⟩ = some (.int .i64 ((rd_T41 l0 x5_1).f1)) ∧ w'.cell? ⟨(ad302.add ((x5_1).toNat * 6)).block, (ad302.add ((x5_1).toNat * 6)).off + 2, none⟩ = some (.int .i64 ((rd_T41 l0 x5_1).f2.f0)) ∧ w'.cell? ⟨(ad302.add ((x5_1).toNat * 6)).block, (ad302.add ((x5_1).toNat * 6)).off + 3, none⟩ = some (.int .i64 ((rd_T41 l0 x5_1).f2.f1)) ∧ w'.cell? ⟨(ad302.add ((x5_1).toNat * 6)).block, (ad302.add ((x5_1).toNat * 6)).off + 4, none⟩ = some (.int .i64 ((rd_T41 l0 x5_1).f2.f2)) ∧ w'.cell? ⟨(ad302.add ((x5_1).toNat * 6)).block, (ad302.add ((x5_1).toNat * 6)).off + 5, none⟩ = some (.int .i64 ((rd_T41 l0 x5_1).f2.f3)) ∧ w'.cell? (ad303.add ((x5_1).toNat * 6)) = some (.slice A303_0 ((rd_T41 l1 x5_1).f0).length c303_0) ∧ w'.cell? ⟨(ad303.add ((x5_1).toNat * 6)).block, (ad303.add ((x5_1).toNat * 6)).off + 1, none⟩ = some (.int .i64 ((rd_T41 l1 x5_1).f1)) ∧ w'.cell? ⟨(ad303.add ((x5_1).toNat * 6)).block, (ad303.add ((x5_1).toNat * 6)).off + 2, none⟩ = some (.int .i64 ((rd_T41 l1 x5_1).f2.f0)) ∧ w'.cell? ⟨(ad303.add ((x5_1).toNat * 6)).block, (ad303.add ((x5_1).toNat * 6)).off + 3, none⟩ = some (.int .i64 ((rd_T41 l1 x5_1).f2.f1)) ∧ w'.cell? ⟨(ad303.add ((x5_1).toNat * 6)).block, (ad303.add ((x5_1).toNat * 6)).off + 4, none⟩ = some (.int .i64 ((rd_T41 l1 x5_1).f2.f2)) ∧ w'.cell? ⟨(ad303.add ((x5_1).toNat * 6)).block, (ad303.add ((x5_1).toNat * 6)).off + 5, none⟩ = some (.int .i64 ((rd_T41 l1 x5_1).f2.f3))) (ds := []) #[false, false, false, false, false, false, false, false, false, false] (by kernel_rfl) rfl rfl ⟨(cB HB hw302_0), (cB HB hw302_1), (cB HB hw302_2), (cB HB hw302_3), (cB HB hw302_4), (cB HB hw302_5), (cB HB hw303_0), (cB HB hw303_1), (cB HB hw303_2), (cB HB hw303_3), (cB HB hw303_4), (cB HB hw303_5)⟩ (fun hHeld => ?_); refine with_tabW laws_eqObjectS.tab6 laws_eqObjectS.bits6 (fun HT_ HW_ => ?_)
      generalize wr.drew = w11 at HB HR302_0 HR303_0 hx302_0 hx302_1 hx302_2 hx302_3 hx302_4 hx302_5 hx303_0 hx303_1 hx303_2 hx303_3 hx303_4 hx303_5 hHeld ⊢
      refine pU 0 (some 17) #[true, false, false, false, false, false, false, false, false, false] ?_
      refine pU 1 (some 18) #[true, true, false, false, false, false, false, false, false, false] ?_
      refine pU 2 (some 19) #[true, true, true, false, false, false, false, false, false, false] ?_
      refine pU 4 (some 21) #[true, true, true, false, true, false, false, false, false, false] ?_
      refine pU 5 (some 22) #[true, true, true, false, true, true, false, false, false, false] ?_
      refine pU 6 (some 23) #[true, true, true, false, true, true, true, false, false, false] ?_
      refine tK 3 (some 20) #[true, true, true, true, true, true, true, false, false, false] ?_
      refine tK 7 (some 24) #[true, true, true, true, true, true, true, true, false, false] ?_
      refine one_ (i := 8) (N := some 25) #[true, true, true, true, true, true, true, true, true, false] rfl rfl (one_of HT_.out (by kernel_rfl)) (by decide) (fun K hK => ?_)
      refine goes_ Try.func73 (by kernel_rfl) rfl #[.agg #[.slice A302_0 ((rd_T41 l0 x5_1).f0).length c302_0, .int .i64 ((rd_T41 l0 x5_1).f1), .int .i64 ((rd_T41 l0 x5_1).f2.f0), .int .i64 ((rd_T41 l0 x5_1).f2.f1), .int .i64 ((rd_T41 l0 x5_1).f2.f2), .int .i64 ((rd_T41 l0 x5_1).f2.f3)], .agg #[.slice A303_0 ((rd_T41 l1 x5_1).f0).length c303_0, .int .i64 ((rd_T41 l1 x5_1).f1), .int .i64 ((rd_T41 l1 x5_1).f2.f0), .int .i64 ((rd_T41 l1 x5_1).f2.f1), .int .i64 ((rd_T41 l1 x5_1).f2.f2), .int .i64 ((rd_T41 l1 x5_1).f2.f3)]] (by rfl) rfl rfl (by (try simp only [List.map_toArray, List.map_cons, List.map_nil]); first | done | rfl | (simp only [List.length_drop, List.length_take]; rfl)) ?_
      with_reducible refine (laws_eqObject.calls k1 _ _ ((rd_T41 l0 x5_1).f0) ((rd_T41 l0 x5_1).f1) ((rd_T41 l0 x5_1).f2.f0) ((rd_T41 l0 x5_1).f2.f1) ((rd_T41 l0 x5_1).f2.f2) ((rd_T41 l0 x5_1).f2.f3) _ _ ((rd_T41 l1 x5_1).f0) ((rd_T41 l1 x5_1).f1) ((rd_T41 l1 x5_1).f2.f0) ((rd_T41 l1 x5_1).f2.f1) ((rd_T41 l1 x5_1).f2.f2) ((rd_T41 l1 x5_1).f2.f3) _ _ ?side1 ?side2 ?side3 ?side4 A7.out).mono ?_
      (case side1 => exact cS (Kd.C_below HR302_0.out HB.out))
      (case side2 => exact HC302_0.out)
      (case side3 => exact cS (Kd.C_below HR303_0.out HB.out))
      (case side4 => exact HC303_0.out)
      rintro e w12 ⟨rfl, hb⟩
      refine ⟨_, rfl, ?_⟩
      replace HB := hB hb
      (try clear hb)
      (try clear hb2)
      (try clear hk)
      (try clear hi)
      refine hK.out _ _ ⟨(cB HB hw302_0), (cB HB hw302_1), (cB HB hw302_2), (cB HB hw302_3), (cB HB hw302_4), (cB HB hw302_5), (cB HB hw303_0), (cB HB hw303_1), (cB HB hw303_2), (cB HB hw303_3), (cB HB hw303_4), (cB HB hw303_5)⟩ (fun hHeld => ?_)
      clear hK K
      refine norm_ (a' := ?_) ?_ ?_
      rotate_left
      ·show Act.put _ (some 25) _ = _
       simp only [Act.put, List.setIfInBounds_toArray, List.set_cons_zero, List.set_cons_succ, i64_w, i32_w]
       rfl
      refine pU 9 (some 26) #[true, true, true, true, true, true, true, true, true, true] ?_
      refine done_ (done_of HT_.out (by kernel_rfl)) ?_
      try go_wp2
      go_ret
      exact ⟨eS, bS⟩
    ·obtain rfl := Option.some.inj H
     go_wp2
     go_ret
     exact ⟨eS, bS⟩
 ·rw [if_neg c3] at H
  have c3b0 : ((l0.length : Int) == (l1.length : Int)) = false := beq_eq_false_iff_ne.mpr c3
  have c3b1 : ((l0.length : Int) != (l1.length : Int)) = true := bne_iff_ne.mpr c3
  have c3b2 : (l0.length == l1.length) = false := by first | simpa using c3 | (simp at c3 ⊢; omega)
  obtain rfl := Option.some.inj H
  go_enter Try.func39, Try.ntmps39
  go_wp2
  go_ret
  exact ⟨eS, bS⟩

/-! ### laws_eqIntS: function 19 -/
def laws_eqIntS.l0 : Nat → List Int → List Int → Int → Option (Bool)
 | 0, _, _, _ => none
 | k + 1, x0, x1, x5 => if x5 < (x0.length : Int) then (if 0 ≤ x5 then (if x5 < (x1.length : Int) then (if (rd x0 x5) = (rd x1 x5) then (laws_eqIntS.l0 k x0 x1 (wrap64 (x5 + 1))) else (some false)) else (none)) else (none)) else (some true)
def laws_eqIntS.f (k : Nat) (l0 : List Int) (l1 : List Int) : Option (Bool) := if (l0.length : Int) = (l1.length : Int) then (laws_eqIntS.l0 k l0 l1 0) else (some false)
theorem laws_eqIntS.calls (k : Nat) (A0 : Option Addr) (c0 : Nat) (l0 : List Int) (A1 : Option Addr) (c1 : Nat) (l1 : List Int) (r : Bool) (w : World) (hr0 : Kd.C (Kd.int .i64) w A0 l0.length l0) (hc0 : l0.length ≤ c0) (hr1 : Kd.C (Kd.int .i64) w A1 l1.length l1) (hc1 : l1.length ≤ c1) (h : laws_eqIntS.f k l0 l1 = some r) :
  Calls Try.prog 19 #[.slice A0 l0.length c0, .slice A1 l1.length c1] w fun e w' => e = .returned (.bool r) ∧ Drawn0 w w' := by
 have HR0 := Aside0.mk hr0
 have HC0 := Aside0.mk hc0
 clear hr0 hc0
 have HR1 := Aside0.mk hr1
 have HC1 := Aside0.mk hc1
 clear hr1 hc1
 have H : (if (l0.length : Int) = (l1.length : Int) then (laws_eqIntS.l0 k l0 l1 0) else (some false)) = some r := h
 clear h
 by_cases c3 : (l0.length : Int) = (l1.length : Int)
 ·rw [if_pos c3] at H
  have c3b0 : ((l0.length : Int) == (l1.length : Int)) = true := beq_iff_eq.mpr c3
  have c3b1 : ((l0.length : Int) != (l1.length : Int)) = false := bne_eq_false_iff_eq.mpr c3
  have c3b2 : (l0.length == l1.length) = true := by first | simpa using c3 | (simp at c3 ⊢; omega)
  clear c3
  have H' := Aside0.mk H
  clear H
  go_enter Try.func19, Try.ntmps19
  go_wp2
  repeat (go_quiet (fail); try go_wp2)
  go_loopg [5] k (fun kq v5 w' => ∃ (x5_1 : Int), v5 = .int .i64 x5_1 ∧ Aside0 (laws_eqIntS.l0 kq l0 l1 x5_1 = some r) ∧ Aside0 (kq ≤ k) ∧ Drawn0 w w')
  case atStart => exact ⟨(0), fS, H', ⟨Nat.le_refl _⟩, dS⟩
  case round =>
   clear H'
   try clear c1
   try clear p2
   try clear c3
   try clear c3b0
   try clear c3b1
   try clear c3b2
   obtain ⟨x5_1, rfl, HA, HK1, ⟨m1, rfl⟩⟩ := hrel
   cases gk with
   | zero => exact absurd HA.out (by simp [laws_eqIntS.l0])
   | succ k1 =>
    have H := HA.out
    clear HA
    simp only [laws_eqIntS.l0] at H
    rcases iD H with ⟨c4b0, H⟩ | ⟨c4b0, H⟩
    ·obtain ⟨c5b0, H⟩ := iT H
     obtain ⟨c6b0, H⟩ := iT H
     by_cases c7 : (rd l0 x5_1) = (rd l1 x5_1)
     ·rw [if_pos c7] at H
      have c7b0 : ((rd l0 x5_1) == (rd l1 x5_1)) = true := beq_iff_eq.mpr c7
      have c7b1 : ((rd l0 x5_1) != (rd l1 x5_1)) = false := bne_eq_false_iff_eq.mpr c7
      clear c7
      have H' := Aside0.mk H
      clear H
      have p305 : 0 ≤ (x5_1 : Int) := dA
      have q305 : x5_1 < (l0.length : Int) := dA
      obtain ⟨ad305, e305, hx305_0⟩ := Kd.at_int HR0.out x5_1 p305 q305
      cases e305
      replace p305 := eq_true p305
      replace q305 := eq_true q305
      have p306 : 0 ≤ (x5_1 : Int) := dA
      have q306 : x5_1 < (l1.length : Int) := dA
      obtain ⟨ad306, e306, hx306_0⟩ := Kd.at_int HR1.out x5_1 p306 q306
      cases e306
      replace p306 := eq_true p306
      replace q306 := eq_true q306
      go_wp2
      repeat (go_quiet (fail); try go_wp2)
      go_roundg k1
      case measure => have := HK1.out; omega
      case rel => exact ⟨(wrap64 (x5_1 + 1)), fS, H', ⟨by have := HK1.out; omega⟩, dS⟩
     ·rw [if_neg c7] at H
      have c7b0 : ((rd l0 x5_1) == (rd l1 x5_1)) = false := beq_eq_false_iff_ne.mpr c7
      have c7b1 : ((rd l0 x5_1) != (rd l1 x5_1)) = true := bne_iff_ne.mpr c7
      obtain rfl := Option.some.inj H
      have p305 : 0 ≤ (x5_1 : Int) := dA
      have q305 : x5_1 < (l0.length : Int) := dA
      obtain ⟨ad305, e305, hx305_0⟩ := Kd.at_int HR0.out x5_1 p305 q305
      cases e305
      replace p305 := eq_true p305
      replace q305 := eq_true q305
      have p306 : 0 ≤ (x5_1 : Int) := dA
      have q306 : x5_1 < (l1.length : Int) := dA
      obtain ⟨ad306, e306, hx306_0⟩ := Kd.at_int HR1.out x5_1 p306 q306
      cases e306
      replace p306 := eq_true p306
      replace q306 := eq_true q306
      go_wp2
      repeat (go_quiet (fail); try go_wp2)
      go_ret
      exact ⟨fS, dS⟩
    ·obtain rfl := Option.some.inj H
     go_wp2
     repeat (go_quiet (fail); try go_wp2)
     go_ret
     exact ⟨fS, dS⟩
 ·rw [if_neg c3] at H
  have c3b0 : ((l0.length : Int) == (l1.length : Int)) = false := beq_eq_false_iff_ne.mpr c3
  have c3b1 : ((l0.length : Int) != (l1.length : Int)) = true := bne_iff_ne.mpr c3
  have c3b2 : (l0.length == l1.length) = false := by first | simpa using c3 | (simp at c3 ⊢; omega)
  obtain rfl := Option.some.inj H
  go_enter Try.func19, Try.ntmps19
  go_wp2
  repeat (go_quiet (fail); try go_wp2)
  go_ret
  exact ⟨fS, dS⟩

/-! ### laws_eqTurn: function 175 -/
def laws_eqTurn.f (a0_0 : Int) (a0_1 : Int) (a0_2 : Int) (a0_3 : Int) (a1_0 : Int) (a1_1 : Int) (a1_2 : Int) (a1_3 : Int) : Option (Bool) := if a0_0 = a1_0 then (if a0_1 = a1_1 then (if a0_2 = a1_2 then (if a0_3 = a1_3 then (some true) else (some false)) else (some false)) else (some false)) else (some false)
theorem laws_eqTurn.lf0 {p : Prop} (h : p := by
 go_enter Try.func175, Try.ntmps175
 go_wp2_with (first | ((with_reducible refine gD 2 ?_); refine bxE #[.int .i64 a0_0, .int .i64 a0_1, .int .i64 a0_2, .int .i64 a0_3] 105 ?_; intro gb307 hg w12 BK307 hb; have GW307 := gE hg; have GE307 := gE hg; replace HB := hB hb; clear hb hg) | ((with_reducible refine gD 3 ?_); refine bxE #[.int .i64 a1_0, .int .i64 a1_1, .int .i64 a1_2, .int .i64 a1_3] 105 ?_; intro gb308 hg w13 BK308 hb; have GW308 := gE hg; have GE308 := gE hg; have NB307_308 := nL (g := gb307) hg; have NB308_307 := nG (g := gb307) hg; replace BK307 := kB (g := gb307) hb; replace HB := hB hb; clear hb hg; have hnb14 := NB307_308.out; have hnc14 := NB308_307.out; have hz15 := cz4 BK307; have hz16 := cz4 BK308))
 go_ret
 exact ⟨eS, bS⟩) : p := h
theorem laws_eqTurn.calls (a0_0 : Int) (a0_1 : Int) (a0_2 : Int) (a0_3 : Int) (a1_0 : Int) (a1_1 : Int) (a1_2 : Int) (a1_3 : Int) (r : Bool) (w : World) (h : laws_eqTurn.f a0_0 a0_1 a0_2 a0_3 a1_0 a1_1 a1_2 a1_3 = some r) :
  Calls Try.prog 175 #[.agg #[.int .i64 a0_0, .int .i64 a0_1, .int .i64 a0_2, .int .i64 a0_3], .agg #[.int .i64 a1_0, .int .i64 a1_1, .int .i64 a1_2, .int .i64 a1_3]] w fun e w' => e = .returned (.bool r) ∧ Below w.heap.size w w' := by
 have hu105 := Try.underlying105
 have HB := Aside0.mk (Below.refl w.heap.size w)
 have H : (if a0_0 = a1_0 then (if a0_1 = a1_1 then (if a0_2 = a1_2 then (if a0_3 = a1_3 then (some true) else (some false)) else (some false)) else (some false)) else (some false)) = some r := h
 clear h
 by_cases c3 : a0_0 = a1_0
 ·rw [if_pos c3] at H
  have c3b0 : (a0_0 == a1_0) = true := beq_iff_eq.mpr c3
  have c3b1 : (a0_0 != a1_0) = false := bne_eq_false_iff_eq.mpr c3
  clear c3
  by_cases c4 : a0_1 = a1_1
  ·rw [if_pos c4] at H
   have c4b0 : (a0_1 == a1_1) = true := beq_iff_eq.mpr c4
   have c4b1 : (a0_1 != a1_1) = false := bne_eq_false_iff_eq.mpr c4
   clear c4
   by_cases c5 : a0_2 = a1_2
   ·rw [if_pos c5] at H
    have c5b0 : (a0_2 == a1_2) = true := beq_iff_eq.mpr c5
    have c5b1 : (a0_2 != a1_2) = false := bne_eq_false_iff_eq.mpr c5
    clear c5
    by_cases c6 : a0_3 = a1_3
    ·rw [if_pos c6] at H
     have c6b0 : (a0_3 == a1_3) = true := beq_iff_eq.mpr c6
     have c6b1 : (a0_3 != a1_3) = false := bne_eq_false_iff_eq.mpr c6
     clear c6
     obtain rfl := Option.some.inj H
     exact laws_eqTurn.lf0
    ·rw [if_neg c6] at H
     have c6b0 : (a0_3 == a1_3) = false := beq_eq_false_iff_ne.mpr c6
     have c6b1 : (a0_3 != a1_3) = true := bne_iff_ne.mpr c6
     obtain rfl := Option.some.inj H
     exact laws_eqTurn.lf0
   ·rw [if_neg c5] at H
    have c5b0 : (a0_2 == a1_2) = false := beq_eq_false_iff_ne.mpr c5
    have c5b1 : (a0_2 != a1_2) = true := bne_iff_ne.mpr c5
    obtain rfl := Option.some.inj H
    exact laws_eqTurn.lf0
  ·rw [if_neg c4] at H
   have c4b0 : (a0_1 == a1_1) = false := beq_eq_false_iff_ne.mpr c4
   have c4b1 : (a0_1 != a1_1) = true := bne_iff_ne.mpr c4
   obtain rfl := Option.some.inj H
   exact laws_eqTurn.lf0
 ·rw [if_neg c3] at H
  have c3b0 : (a0_0 == a1_0) = false := beq_eq_false_iff_ne.mpr c3
  have c3b1 : (a0_0 != a1_0) = true := bne_iff_ne.mpr c3
  obtain rfl := Option.some.inj H
  exact laws_eqTurn.lf0

/-! ### laws_eqGraphics: function 136 -/
def laws_eqGraphics.f (k : Nat) (l0_0 : List Int) (a0_1 : Int) (a0_2 : Int) (a0_3 : Int) (a0_4 : Int) (l0_5 : List (S166)) (a0_6 : Int) (a0_7 : Int) (a0_8 : Int) (a0_9 : Int) (a0_10 : Int) (l1_0 : List Int) (a1_1 : Int) (a1_2 : Int) (a1_3 : Int) (a1_4 : Int) (l1_5 : List (S166)) (a1_6 : Int) (a1_7 : Int) (a1_8 : Int) (a1_9 : Int) (a1_10 : Int) : Option (Bool) := (laws_eqIntS.f k l0_0 l1_0).bind fun t311 => (if t311 = true then ((laws_eqTurn.f a0_1 a0_2 a0_3 a0_4 a1_1 a1_2 a1_3 a1_4).bind fun t312 => (if t312 = true then ((laws_eqPointS.f k l0_5 l1_5).bind fun t313 => (if t313 = true then (if a0_6 = a1_6 then ((laws_eqBox.f a0_7 a0_8 a0_9 a0_10 a1_7 a1_8 a1_9 a1_10).bind fun t314 => (if t314 = true then (some true) else (some false))) else (some false)) else (some false))) else (some false))) else (some false))
theorem laws_eqGraphics.lf0 {p : Prop} (h : p := by
 go_enter Try.func136, Try.ntmps136
 go_wp2_with (first | ((with_reducible refine gD 2 ?_); refine bxE #[.slice A0_0 l0_0.length c0_0, .int .i64 a0_1, .int .i64 a0_2, .int .i64 a0_3, .int .i64 a0_4, .slice A0_5 l0_5.length c0_5, .int .i64 a0_6, .int .i64 a0_7, .int .i64 a0_8, .int .i64 a0_9, .int .i64 a0_10] 107 ?_; intro gb309 hg w12 BK309 hb; have GW309 := gE hg; have GE309 := gE hg; replace HB := hB hb; clear hb hg) | ((with_reducible refine gD 3 ?_); refine bxE #[.slice A1_0 l1_0.length c1_0, .int .i64 a1_1, .int .i64 a1_2, .int .i64 a1_3, .int .i64 a1_4, .slice A1_5 l1_5.length c1_5, .int .i64 a1_6, .int .i64 a1_7, .int .i64 a1_8, .int .i64 a1_9, .int .i64 a1_10] 107 ?_; intro gb310 hg w13 BK310 hb; have GW310 := gE hg; have GE310 := gE hg; have NB309_310 := nL (g := gb309) hg; have NB310_309 := nG (g := gb309) hg; replace BK309 := kB (g := gb309) hb; replace HB := hB hb; clear hb hg; have hnb14 := NB309_310.out; have hnc14 := NB310_309.out; have hcz15_0 : w13.cell? ⟨gb309, 0, none⟩ = some (.slice A0_0 l0_0.length c0_0) := (blk_cell BK309.out 0).trans rfl; have hcz15_1 : w13.cell? ⟨gb309, 1, none⟩ = some (.int .i64 a0_1) := (blk_cell BK309.out 1).trans rfl; have hcz15_2 : w13.cell? ⟨gb309, 2, none⟩ = some (.int .i64 a0_2) := (blk_cell BK309.out 2).trans rfl; have hcz15_3 : w13.cell? ⟨gb309, 3, none⟩ = some (.int .i64 a0_3) := (blk_cell BK309.out 3).trans rfl; have hcz15_4 : w13.cell? ⟨gb309, 4, none⟩ = some (.int .i64 a0_4) := (blk_cell BK309.out 4).trans rfl; have hcz15_5 : w13.cell? ⟨gb309, 5, none⟩ = some (.slice A0_5 l0_5.length c0_5) := (blk_cell BK309.out 5).trans rfl; have hcz15_6 : w13.cell? ⟨gb309, 6, none⟩ = some (.int .i64 a0_6) := (blk_cell BK309.out 6).trans rfl; have hcz15_7 : w13.cell? ⟨gb309, 7, none⟩ = some (.int .i64 a0_7) := (blk_cell BK309.out 7).trans rfl; have hcz15_8 : w13.cell? ⟨gb309, 8, none⟩ = some (.int .i64 a0_8) := (blk_cell BK309.out 8).trans rfl; have hcz15_9 : w13.cell? ⟨gb309, 9, none⟩ = some (.int .i64 a0_9) := (blk_cell BK309.out 9).trans rfl; have hcz15_10 : w13.cell? ⟨gb309, 10, none⟩ = some (.int .i64 a0_10) := (blk_cell BK309.out 10).trans rfl; have hfz15_0 := blk_frozen BK309.out 0; have hfz15_1 := blk_frozen BK309.out 1; have hfz15_2 := blk_frozen BK309.out 2; have hfz15_3 := blk_frozen BK309.out 3; have hfz15_4 := blk_frozen BK309.out 4; have hfz15_5 := blk_frozen BK309.out 5; have hfz15_6 := blk_frozen BK309.out 6; have hfz15_7 := blk_frozen BK309.out 7; have hfz15_8 := blk_frozen BK309.out 8; have hfz15_9 := blk_frozen BK309.out 9; have hfz15_10 := blk_frozen BK309.out 10; have hcz16_0 : w13.cell? ⟨gb310, 0, none⟩ = some (.slice A1_0 l1_0.length c1_0) := (blk_cell BK310.out 0).trans rfl; have hcz16_1 : w13.cell? ⟨gb310, 1, none⟩ = some (.int .i64 a1_1) := (blk_cell BK310.out 1).trans rfl; have hcz16_2 : w13.cell? ⟨gb310, 2, none⟩ = some (.int .i64 a1_2) := (blk_cell BK310.out 2).trans rfl; have hcz16_3 : w13.cell? ⟨gb310, 3, none⟩ = some (.int .i64 a1_3) := (blk_cell BK310.out 3).trans rfl; have hcz16_4 : w13.cell? ⟨gb310, 4, none⟩ = some (.int .i64 a1_4) := (blk_cell BK310.out 4).trans rfl; have hcz16_5 : w13.cell? ⟨gb310, 5, none⟩ = some (.slice A1_5 l1_5.length c1_5) := (blk_cell BK310.out 5).trans rfl; have hcz16_6 : w13.cell? ⟨gb310, 6, none⟩ = some (.int .i64 a1_6) := (blk_cell BK310.out 6).trans rfl; have hcz16_7 : w13.cell? ⟨gb310, 7, none⟩ = some (.int .i64 a1_7) := (blk_cell BK310.out 7).trans rfl; have hcz16_8 : w13.cell? ⟨gb310, 8, none⟩ = some (.int .i64 a1_8) := (blk_cell BK310.out 8).trans rfl; have hcz16_9 : w13.cell? ⟨gb310, 9, none⟩ = some (.int .i64 a1_9) := (blk_cell BK310.out 9).trans rfl; have hcz16_10 : w13.cell? ⟨gb310, 10, none⟩ = some (.int .i64 a1_10) := (blk_cell BK310.out 10).trans rfl; have hfz16_0 := blk_frozen BK310.out 0; have hfz16_1 := blk_frozen BK310.out 1; have hfz16_2 := blk_frozen BK310.out 2; have hfz16_3 := blk_frozen BK310.out 3; have hfz16_4 := blk_frozen BK310.out 4; have hfz16_5 := blk_frozen BK310.out 5; have hfz16_6 := blk_frozen BK310.out 6; have hfz16_7 := blk_frozen BK310.out 7; have hfz16_8 := blk_frozen BK310.out 8; have hfz16_9 := blk_frozen BK310.out 9; have hfz16_10 := blk_frozen BK310.out 10) | ((with_reducible refine gC 19 ?_); refine cL (some 9) Try.func19 #[.slice A0_0 l0_0.length c0_0, .slice A1_0 l1_0.length c1_0] ?_; (with_reducible refine (laws_eqIntS.calls k _ _ l0_0 _ _ l1_0 _ _ (cS (Kd.C_below HR0_0.out HB.out)) HC0_0.out (cS (Kd.C_below HR1_0.out HB.out)) HC1_0.out A3.out).mono ?_); rintro e w' ⟨rfl, ⟨nd, rfl⟩⟩; refine ⟨_, rfl, ?_⟩) | ((with_reducible refine gC 175 ?_); refine cL (some 15) Try.func175 #[.agg #[.int .i64 a0_1, .int .i64 a0_2, .int .i64 a0_3, .int .i64 a0_4], .agg #[.int .i64 a1_1, .int .i64 a1_2, .int .i64 a1_3, .int .i64 a1_4]] ?_; (with_reducible refine (laws_eqTurn.calls a0_1 a0_2 a0_3 a0_4 a1_1 a1_2 a1_3 a1_4 _ _ A5.out).mono ?_); rintro e w17 ⟨rfl, hb⟩; refine ⟨_, rfl, ?_⟩; replace BK309 := kB (g := gb309) hb; replace BK310 := kB (g := gb310) hb; replace HB := hB hb; (try clear hb); (try clear hb2); (try clear hk); (try clear hi); have hcz18_0 : w17.cell? ⟨gb309, 0, none⟩ = some (.slice A0_0 l0_0.length c0_0) := (blk_cell BK309.out 0).trans rfl; have hcz18_1 : w17.cell? ⟨gb309, 1, none⟩ = some (.int .i64 a0_1) := (blk_cell BK309.out 1).trans rfl; have hcz18_2 : w17.cell? ⟨gb309, 2, none⟩ = some (.int .i64 a0_2) := (blk_cell BK309.out 2).trans rfl; have hcz18_3 : w17.cell? ⟨gb309, 3, none⟩ = some (.int .i64 a0_3) := (blk_cell BK309.out 3).trans rfl; have hcz18_4 : w17.cell? ⟨gb309, 4, none⟩ = some (.int .i64 a0_4) := (blk_cell BK309.out 4).trans rfl; have hcz18_5 : w17.cell? ⟨gb309, 5, none⟩ = some (.slice A0_5 l0_5.length c0_5) := (blk_cell BK309.out 5).trans rfl; have hcz18_6 : w17.cell? ⟨gb309, 6, none⟩ = some (.int .i64 a0_6) := (blk_cell BK309.out 6).trans rfl; have hcz18_7 : w17.cell? ⟨gb309, 7, none⟩ = some (.int .i64 a0_7) := (blk_cell BK309.out 7).trans rfl; have hcz18_8 : w17.cell? ⟨gb309, 8, none⟩ = some (.int .i64 a0_8) := (blk_cell BK309.out 8).trans rfl; have hcz18_9 : w17.cell? ⟨gb309, 9, none⟩ = some (.int .i64 a0_9) := (blk_cell BK309.out 9).trans rfl; have hcz18_10 : w17.cell? ⟨gb309, 10, none⟩ = some (.int .i64 a0_10) := (blk_cell BK309.out 10).trans rfl; have hfz18_0 := blk_frozen BK309.out 0; have hfz18_1 := blk_frozen BK309.out 1; have hfz18_2 := blk_frozen BK309.out 2; have hfz18_3 := blk_frozen BK309.out 3; have hfz18_4 := blk_frozen BK309.out 4; have hfz18_5 := blk_frozen BK309.out 5; have hfz18_6 := blk_frozen BK309.out 6; have hfz18_7 := blk_frozen BK309.out 7; have hfz18_8 := blk_frozen BK309.out 8; have hfz18_9 := blk_frozen BK309.out 9; have hfz18_10 := blk_frozen BK309.out 10; have hcz19_0 : w17.cell? ⟨gb310, 0, none⟩ = some (.slice A1_0 l1_0.length c1_0) := (blk_cell BK310.out 0).trans rfl; have hcz19_1 : w17.cell? ⟨gb310, 1, none⟩ = some (.int .i64 a1_1) := (blk_cell BK310.out 1).trans rfl; have hcz19_2 : w17.cell? ⟨gb310, 2, none⟩ = some (.int .i64 a1_2) := (blk_cell BK310.out 2).trans rfl; have hcz19_3 : w17.cell? ⟨gb310, 3, none⟩ = some (.int .i64 a1_3) := (blk_cell BK310.out 3).trans rfl; have hcz19_4 : w17.cell? ⟨gb310, 4, none⟩ = some (.int .i64 a1_4) := (blk_cell BK310.out 4).trans rfl; have hcz19_5 : w17.cell? ⟨gb310, 5, none⟩ = some (.slice A1_5 l1_5.length c1_5) := (blk_cell BK310.out 5).trans rfl; have hcz19_6 : w17.cell? ⟨gb310, 6, none⟩ = some (.int .i64 a1_6) := (blk_cell BK310.out 6).trans rfl; have hcz19_7 : w17.cell? ⟨gb310, 7, none⟩ = some (.int .i64 a1_7) := (blk_cell BK310.out 7).trans rfl; have hcz19_8 : w17.cell? ⟨gb310, 8, none⟩ = some (.int .i64 a1_8) := (blk_cell BK310.out 8).trans rfl; have hcz19_9 : w17.cell? ⟨gb310, 9, none⟩ = some (.int .i64 a1_9) := (blk_cell BK310.out 9).trans rfl; have hcz19_10 : w17.cell? ⟨gb310, 10, none⟩ = some (.int .i64 a1_10) := (blk_cell BK310.out 10).trans rfl; have hfz19_0 := blk_frozen BK310.out 0; have hfz19_1 := blk_frozen BK310.out 1; have hfz19_2 := blk_frozen BK310.out 2; have hfz19_3 := blk_frozen BK310.out 3; have hfz19_4 := blk_frozen BK310.out 4; have hfz19_5 := blk_frozen BK310.out 5; have hfz19_6 := blk_frozen BK310.out 6; have hfz19_7 := blk_frozen BK310.out 7; have hfz19_8 := blk_frozen BK310.out 8; have hfz19_9 := blk_frozen BK310.out 9; have hfz19_10 := blk_frozen BK310.out 10) | ((with_reducible refine gC 127 ?_); refine cL (some 21) Try.func127 #[.slice A0_5 l0_5.length c0_5, .slice A1_5 l1_5.length c1_5] ?_; (with_reducible refine (laws_eqPointS.calls k _ _ l0_5 _ _ l1_5 _ _ (cS (Kd.C_below HR0_5.out HB.out)) HC0_5.out (cS (Kd.C_below HR1_5.out HB.out)) HC1_5.out A7.out).mono ?_); rintro e w20 ⟨rfl, hb⟩; refine ⟨_, rfl, ?_⟩; replace BK309 := kB (g := gb309) hb; replace BK310 := kB (g := gb310) hb; replace HB := hB hb; (try clear hb); (try clear hb2); (try clear hk); (try clear hi); have hcz21_0 : w20.cell? ⟨gb309, 0, none⟩ = some (.slice A0_0 l0_0.length c0_0) := (blk_cell BK309.out 0).trans rfl; have hcz21_1 : w20.cell? ⟨gb309, 1, none⟩ = some (.int .i64 a0_1) := (blk_cell BK309.out 1).trans rfl; have hcz21_2 : w20.cell? ⟨gb309, 2, none⟩ = some (.int .i64 a0_2) := (blk_cell BK309.out 2).trans rfl; have hcz21_3 : w20.cell? ⟨gb309, 3, none⟩ = some (.int .i64 a0_3) := (blk_cell BK309.out 3).trans rfl; have hcz21_4 : w20.cell? ⟨gb309, 4, none⟩ = some (.int .i64 a0_4) := (blk_cell BK309.out 4).trans rfl; have hcz21_5 : w20.cell? ⟨gb309, 5, none⟩ = some (.slice A0_5 l0_5.length c0_5) := (blk_cell BK309.out 5).trans rfl; have hcz21_6 : w20.cell? ⟨gb309, 6, none⟩ = some (.int .i64 a0_6) := (blk_cell BK309.out 6).trans rfl; have hcz21_7 : w20.cell? ⟨gb309, 7, none⟩ = some (.int .i64 a0_7) := (blk_cell BK309.out 7).trans rfl; have hcz21_8 : w20.cell? ⟨gb309, 8, none⟩ = some (.int .i64 a0_8) := (blk_cell BK309.out 8).trans rfl; have hcz21_9 : w20.cell? ⟨gb309, 9, none⟩ = some (.int .i64 a0_9) := (blk_cell BK309.out 9).trans rfl; have hcz21_10 : w20.cell? ⟨gb309, 10, none⟩ = some (.int .i64 a0_10) := (blk_cell BK309.out 10).trans rfl; have hfz21_0 := blk_frozen BK309.out 0; have hfz21_1 := blk_frozen BK309.out 1; have hfz21_2 := blk_frozen BK309.out 2; have hfz21_3 := blk_frozen BK309.out 3; have hfz21_4 := blk_frozen BK309.out 4; have hfz21_5 := blk_frozen BK309.out 5; have hfz21_6 := blk_frozen BK309.out 6; have hfz21_7 := blk_frozen BK309.out 7; have hfz21_8 := blk_frozen BK309.out 8; have hfz21_9 := blk_frozen BK309.out 9; have hfz21_10 := blk_frozen BK309.out 10; have hcz22_0 : w20.cell? ⟨gb310, 0, none⟩ = some (.slice A1_0 l1_0.length c1_0) := (blk_cell BK310.out 0).trans rfl; have hcz22_1 : w20.cell? ⟨gb310, 1, none⟩ = some (.int .i64 a1_1) := (blk_cell BK310.out 1).trans rfl; have hcz22_2 : w20.cell? ⟨gb310, 2, none⟩ = some (.int .i64 a1_2) := (blk_cell BK310.out 2).trans rfl; have hcz22_3 : w20.cell? ⟨gb310, 3, none⟩ = some (.int .i64 a1_3) := (blk_cell BK310.out 3).trans rfl; have hcz22_4 : w20.cell? ⟨gb310, 4, none⟩ = some (.int .i64 a1_4) := (blk_cell BK310.out 4).trans rfl; have hcz22_5 : w20.cell? ⟨gb310, 5, none⟩ = some (.slice A1_5 l1_5.length c1_5) := (blk_cell BK310.out 5).trans rfl; have hcz22_6 : w20.cell? ⟨gb310, 6, none⟩ = some (.int .i64 a1_6) := (blk_cell BK310.out 6).trans rfl; have hcz22_7 : w20.cell? ⟨gb310, 7, none⟩ = some (.int .i64 a1_7) := (blk_cell BK310.out 7).trans rfl; have hcz22_8 : w20.cell? ⟨gb310, 8, none⟩ = some (.int .i64 a1_8) := (blk_cell BK310.out 8).trans rfl; have hcz22_9 : w20.cell? ⟨gb310, 9, none⟩ = some (.int .i64 a1_9) := (blk_cell BK310.out 9).trans rfl; have hcz22_10 : w20.cell? ⟨gb310, 10, none⟩ = some (.int .i64 a1_10) := (blk_cell BK310.out 10).trans rfl; have hfz22_0 := blk_frozen BK310.out 0; have hfz22_1 := blk_frozen BK310.out 1; have hfz22_2 := blk_frozen BK310.out 2; have hfz22_3 := blk_frozen BK310.out 3; have hfz22_4 := blk_frozen BK310.out 4; have hfz22_5 := blk_frozen BK310.out 5; have hfz22_6 := blk_frozen BK310.out 6; have hfz22_7 := blk_frozen BK310.out 7; have hfz22_8 := blk_frozen BK310.out 8; have hfz22_9 := blk_frozen BK310.out 9; have hfz22_10 := blk_frozen BK310.out 10) | ((with_reducible refine gC 128 ?_); refine cL (some 32) Try.func128 #[.agg #[.int .i64 a0_7, .int .i64 a0_8, .int .i64 a0_9, .int .i64 a0_10], .agg #[.int .i64 a1_7, .int .i64 a1_8, .int .i64 a1_9, .int .i64 a1_10]] ?_; (with_reducible refine (laws_eqBox.calls a0_7 a0_8 a0_9 a0_10 a1_7 a1_8 a1_9 a1_10 _ _ A10.out).mono ?_); rintro e w23 ⟨rfl, hb⟩; refine ⟨_, rfl, ?_⟩; replace BK309 := kB (g := gb309) hb; replace BK310 := kB (g := gb310) hb; replace HB := hB hb; (try clear hb); (try clear hb2); (try clear hk); (try clear hi)))
 go_ret
 exact ⟨eS, bS⟩) : p := h
theorem laws_eqGraphics.calls (k : Nat) (A0_0 : Option Addr) (c0_0 : Nat) (l0_0 : List Int) (a0_1 : Int) (a0_2 : Int) (a0_3 : Int) (a0_4 : Int) (A0_5 : Option Addr) (c0_5 : Nat) (l0_5 : List (S166)) (a0_6 : Int) (a0_7 : Int) (a0_8 : Int) (a0_9 : Int) (a0_10 : Int) (A1_0 : Option Addr) (c1_0 : Nat) (l1_0 : List Int) (a1_1 : Int) (a1_2 : Int) (a1_3 : Int) (a1_4 : Int) (A1_5 : Option Addr) (c1_5 : Nat) (l1_5 : List (S166)) (a1_6 : Int) (a1_7 : Int) (a1_8 : Int) (a1_9 : Int) (a1_10 : Int) (r : Bool) (w : World) (hr0_0 : Kd.C (Kd.int .i64) w A0_0 l0_0.length l0_0) (hc0_0 : l0_0.length ≤ c0_0) (hr0_5 : Kd.C k166 w A0_5 l0_5.length l0_5) (hc0_5 : l0_5.length ≤ c0_5) (hr1_0 : Kd.C (Kd.int .i64) w A1_0 l1_0.length l1_0) (hc1_0 : l1_0.length ≤ c1_0) (hr1_5 : Kd.C k166 w A1_5 l1_5.length l1_5) (hc1_5 : l1_5.length ≤ c1_5) (h : laws_eqGraphics.f k l0_0 a0_1 a0_2 a0_3 a0_4 l0_5 a0_6 a0_7 a0_8 a0_9 a0_10 l1_0 a1_1 a1_2 a1_3 a1_4 l1_5 a1_6 a1_7 a1_8 a1_9 a1_10 = some r) :
  Calls Try.prog 136 #[.agg #[.slice A0_0 l0_0.length c0_0, .int .i64 a0_1, .int .i64 a0_2, .int .i64 a0_3, .int .i64 a0_4, .slice A0_5 l0_5.length c0_5, .int .i64 a0_6, .int .i64 a0_7, .int .i64 a0_8, .int .i64 a0_9, .int .i64 a0_10], .agg #[.slice A1_0 l1_0.length c1_0, .int .i64 a1_1, .int .i64 a1_2, .int .i64 a1_3, .int .i64 a1_4, .slice A1_5 l1_5.length c1_5, .int .i64 a1_6, .int .i64 a1_7, .int .i64 a1_8, .int .i64 a1_9, .int .i64 a1_10]] w fun e w' => e = .returned (.bool r) ∧ Below w.heap.size w w' := by
 have hu107 := Try.underlying107
 have hu105 := Try.underlying105
 have hu39 := Try.underlying39
 have HR0_0 := Aside0.mk hr0_0
 have HC0_0 := Aside0.mk hc0_0
 clear hr0_0 hc0_0
 have HR0_5 := Aside0.mk hr0_5
 have HC0_5 := Aside0.mk hc0_5
 clear hr0_5 hc0_5
 have HR1_0 := Aside0.mk hr1_0
 have HC1_0 := Aside0.mk hc1_0
 clear hr1_0 hc1_0
 have HR1_5 := Aside0.mk hr1_5
 have HC1_5 := Aside0.mk hc1_5
 clear hr1_5 hc1_5
 have HB := Aside0.mk (Below.refl w.heap.size w)
 have H : ((laws_eqIntS.f k l0_0 l1_0).bind fun t311 => (if t311 = true then ((laws_eqTurn.f a0_1 a0_2 a0_3 a0_4 a1_1 a1_2 a1_3 a1_4).bind fun t312 => (if t312 = true then ((laws_eqPointS.f k l0_5 l1_5).bind fun t313 => (if t313 = true then (if a0_6 = a1_6 then ((laws_eqBox.f a0_7 a0_8 a0_9 a0_10 a1_7 a1_8 a1_9 a1_10).bind fun t314 => (if t314 = true then (some true) else (some false))) else (some false)) else (some false))) else (some false))) else (some false))) = some r := h
 clear h
 replace H := bN H
 obtain ⟨t311, A3, H⟩ := H
 by_cases c4 : t311 = true
 ·subst c4
  rw [if_pos rfl] at H
  replace H := bN H
  obtain ⟨t312, A5, H⟩ := H
  by_cases c6 : t312 = true
  ·subst c6
   rw [if_pos rfl] at H
   replace H := bN H
   obtain ⟨t313, A7, H⟩ := H
   by_cases c8 : t313 = true
   ·subst c8
    rw [if_pos rfl] at H
    by_cases c9 : a0_6 = a1_6
    ·rw [if_pos c9] at H
     have c9b0 : (a0_6 == a1_6) = true := beq_iff_eq.mpr c9
     have c9b1 : (a0_6 != a1_6) = false := bne_eq_false_iff_eq.mpr c9
     clear c9
     replace H := bN H
     obtain ⟨t314, A10, H⟩ := H
     by_cases c11 : t314 = true
     ·subst c11
      rw [if_pos rfl] at H
      obtain rfl := Option.some.inj H
      exact laws_eqGraphics.lf0
     ·obtain rfl := Bool.eq_false_iff.mpr c11
      rw [if_neg nF] at H
      obtain rfl := Option.some.inj H
      exact laws_eqGraphics.lf0
    ·rw [if_neg c9] at H
     have c9b0 : (a0_6 == a1_6) = false := beq_eq_false_iff_ne.mpr c9
     have c9b1 : (a0_6 != a1_6) = true := bne_iff_ne.mpr c9
     obtain rfl := Option.some.inj H
     exact laws_eqGraphics.lf0
   ·obtain rfl := Bool.eq_false_iff.mpr c8
    rw [if_neg nF] at H
    obtain rfl := Option.some.inj H
    go_enter Try.func136, Try.ntmps136
    go_wp2_with (first | ((with_reducible refine gD 2 ?_); refine bxE #[.slice A0_0 l0_0.length c0_0, .int .i64 a0_1, .int .i64 a0_2, .int .i64 a0_3, .int .i64 a0_4, .slice A0_5 l0_5.length c0_5, .int .i64 a0_6, .int .i64 a0_7, .int .i64 a0_8, .int .i64 a0_9, .int .i64 a0_10] 107 ?_; intro gb309 hg w47 BK309 hb; have GW309 := gE hg; have GE309 := gE hg; replace HB := hB hb; clear hb hg) | ((with_reducible refine gD 3 ?_); refine bxE #[.slice A1_0 l1_0.length c1_0, .int .i64 a1_1, .int .i64 a1_2, .int .i64 a1_3, .int .i64 a1_4, .slice A1_5 l1_5.length c1_5, .int .i64 a1_6, .int .i64 a1_7, .int .i64 a1_8, .int .i64 a1_9, .int .i64 a1_10] 107 ?_; intro gb310 hg w48 BK310 hb; have GW310 := gE hg; have GE310 := gE hg; have NB309_310 := nL (g := gb309) hg; have NB310_309 := nG (g := gb309) hg; replace BK309 := kB (g := gb309) hb; replace HB := hB hb; clear hb hg; have hnb49 := NB309_310.out; have hnc49 := NB310_309.out; have hcz50_0 : w48.cell? ⟨gb309, 0, none⟩ = some (.slice A0_0 l0_0.length c0_0) := (blk_cell BK309.out 0).trans rfl; have hcz50_1 : w48.cell? ⟨gb309, 1, none⟩ = some (.int .i64 a0_1) := (blk_cell BK309.out 1).trans rfl; have hcz50_2 : w48.cell? ⟨gb309, 2, none⟩ = some (.int .i64 a0_2) := (blk_cell BK309.out 2).trans rfl; have hcz50_3 : w48.cell? ⟨gb309, 3, none⟩ = some (.int .i64 a0_3) := (blk_cell BK309.out 3).trans rfl; have hcz50_4 : w48.cell? ⟨gb309, 4, none⟩ = some (.int .i64 a0_4) := (blk_cell BK309.out 4).trans rfl; have hcz50_5 : w48.cell? ⟨gb309, 5, none⟩ = some (.slice A0_5 l0_5.length c0_5) := (blk_cell BK309.out 5).trans rfl; have hcz50_6 : w48.cell? ⟨gb309, 6, none⟩ = some (.int .i64 a0_6) := (blk_cell BK309.out 6).trans rfl; have hcz50_7 : w48.cell? ⟨gb309, 7, none⟩ = some (.int .i64 a0_7) := (blk_cell BK309.out 7).trans rfl; have hcz50_8 : w48.cell? ⟨gb309, 8, none⟩ = some (.int .i64 a0_8) := (blk_cell BK309.out 8).trans rfl; have hcz50_9 : w48.cell? ⟨gb309, 9, none⟩ = some (.int .i64 a0_9) := (blk_cell BK309.out 9).trans rfl; have hcz50_10 : w48.cell? ⟨gb309, 10, none⟩ = some (.int .i64 a0_10) := (blk_cell BK309.out 10).trans rfl; have hfz50_0 := blk_frozen BK309.out 0; have hfz50_1 := blk_frozen BK309.out 1; have hfz50_2 := blk_frozen BK309.out 2; have hfz50_3 := blk_frozen BK309.out 3; have hfz50_4 := blk_frozen BK309.out 4; have hfz50_5 := blk_frozen BK309.out 5; have hfz50_6 := blk_frozen BK309.out 6; have hfz50_7 := blk_frozen BK309.out 7; have hfz50_8 := blk_frozen BK309.out 8; have hfz50_9 := blk_frozen BK309.out 9; have hfz50_10 := blk_frozen BK309.out 10; have hcz51_0 : w48.cell? ⟨gb310, 0, none⟩ = some (.slice A1_0 l1_0.length c1_0) := (blk_cell BK310.out 0).trans rfl; have hcz51_1 : w48.cell? ⟨gb310, 1, none⟩ = some (.int .i64 a1_1) := (blk_cell BK310.out 1).trans rfl; have hcz51_2 : w48.cell? ⟨gb310, 2, none⟩ = some (.int .i64 a1_2) := (blk_cell BK310.out 2).trans rfl; have hcz51_3 : w48.cell? ⟨gb310, 3, none⟩ = some (.int .i64 a1_3) := (blk_cell BK310.out 3).trans rfl; have hcz51_4 : w48.cell? ⟨gb310, 4, none⟩ = some (.int .i64 a1_4) := (blk_cell BK310.out 4).trans rfl; have hcz51_5 : w48.cell? ⟨gb310, 5, none⟩ = some (.slice A1_5 l1_5.length c1_5) := (blk_cell BK310.out 5).trans rfl; have hcz51_6 : w48.cell? ⟨gb310, 6, none⟩ = some (.int .i64 a1_6) := (blk_cell BK310.out 6).trans rfl; have hcz51_7 : w48.cell? ⟨gb310, 7, none⟩ = some (.int .i64 a1_7) := (blk_cell BK310.out 7).trans rfl; have hcz51_8 : w48.cell? ⟨gb310, 8, none⟩ = some (.int .i64 a1_8) := (blk_cell BK310.out 8).trans rfl; have hcz51_9 : w48.cell? ⟨gb310, 9, none⟩ = some (.int .i64 a1_9) := (blk_cell BK310.out 9).trans rfl; have hcz51_10 : w48.cell? ⟨gb310, 10, none⟩ = some (.int .i64 a1_10) := (blk_cell BK310.out 10).trans rfl; have hfz51_0 := blk_frozen BK310.out 0; have hfz51_1 := blk_frozen BK310.out 1; have hfz51_2 := blk_frozen BK310.out 2; have hfz51_3 := blk_frozen BK310.out 3; have hfz51_4 := blk_frozen BK310.out 4; have hfz51_5 := blk_frozen BK310.out 5; have hfz51_6 := blk_frozen BK310.out 6; have hfz51_7 := blk_frozen BK310.out 7; have hfz51_8 := blk_frozen BK310.out 8; have hfz51_9 := blk_frozen BK310.out 9; have hfz51_10 := blk_frozen BK310.out 10) | ((with_reducible refine gC 19 ?_); refine cL (some 9) Try.func19 #[.slice A0_0 l0_0.length c0_0, .slice A1_0 l1_0.length c1_0] ?_; (with_reducible refine (laws_eqIntS.calls k _ _ l0_0 _ _ l1_0 _ _ (cS (Kd.C_below HR0_0.out HB.out)) HC0_0.out (cS (Kd.C_below HR1_0.out HB.out)) HC1_0.out A3.out).mono ?_); rintro e w' ⟨rfl, ⟨nd, rfl⟩⟩; refine ⟨_, rfl, ?_⟩) | ((with_reducible refine gC 175 ?_); refine cL (some 15) Try.func175 #[.agg #[.int .i64 a0_1, .int .i64 a0_2, .int .i64 a0_3, .int .i64 a0_4], .agg #[.int .i64 a1_1, .int .i64 a1_2, .int .i64 a1_3, .int .i64 a1_4]] ?_; (with_reducible refine (laws_eqTurn.calls a0_1 a0_2 a0_3 a0_4 a1_1 a1_2 a1_3 a1_4 _ _ A5.out).mono ?_); rintro e w52 ⟨rfl, hb⟩; refine ⟨_, rfl, ?_⟩; replace BK309 := kB (g := gb309) hb; replace BK310 := kB (g := gb310) hb; replace HB := hB hb; (try clear hb); (try clear hb2); (try clear hk); (try clear hi); have hcz53_0 : w52.cell? ⟨gb309, 0, none⟩ = some (.slice A0_0 l0_0.length c0_0) := (blk_cell BK309.out 0).trans rfl; have hcz53_1 : w52.cell? ⟨gb309, 1, none⟩ = some (.int .i64 a0_1) := (blk_cell BK309.out 1).trans rfl; have hcz53_2 : w52.cell? ⟨gb309, 2, none⟩ = some (.int .i64 a0_2) := (blk_cell BK309.out 2).trans rfl; have hcz53_3 : w52.cell? ⟨gb309, 3, none⟩ = some (.int .i64 a0_3) := (blk_cell BK309.out 3).trans rfl; have hcz53_4 : w52.cell? ⟨gb309, 4, none⟩ = some (.int .i64 a0_4) := (blk_cell BK309.out 4).trans rfl; have hcz53_5 : w52.cell? ⟨gb309, 5, none⟩ = some (.slice A0_5 l0_5.length c0_5) := (blk_cell BK309.out 5).trans rfl; have hcz53_6 : w52.cell? ⟨gb309, 6, none⟩ = some (.int .i64 a0_6) := (blk_cell BK309.out 6).trans rfl; have hcz53_7 : w52.cell? ⟨gb309, 7, none⟩ = some (.int .i64 a0_7) := (blk_cell BK309.out 7).trans rfl; have hcz53_8 : w52.cell? ⟨gb309, 8, none⟩ = some (.int .i64 a0_8) := (blk_cell BK309.out 8).trans rfl; have hcz53_9 : w52.cell? ⟨gb309, 9, none⟩ = some (.int .i64 a0_9) := (blk_cell BK309.out 9).trans rfl; have hcz53_10 : w52.cell? ⟨gb309, 10, none⟩ = some (.int .i64 a0_10) := (blk_cell BK309.out 10).trans rfl; have hfz53_0 := blk_frozen BK309.out 0; have hfz53_1 := blk_frozen BK309.out 1; have hfz53_2 := blk_frozen BK309.out 2; have hfz53_3 := blk_frozen BK309.out 3; have hfz53_4 := blk_frozen BK309.out 4; have hfz53_5 := blk_frozen BK309.out 5; have hfz53_6 := blk_frozen BK309.out 6; have hfz53_7 := blk_frozen BK309.out 7; have hfz53_8 := blk_frozen BK309.out 8; have hfz53_9 := blk_frozen BK309.out 9; have hfz53_10 := blk_frozen BK309.out 10; have hcz54_0 : w52.cell? ⟨gb310, 0, none⟩ = some (.slice A1_0 l1_0.length c1_0) := (blk_cell BK310.out 0).trans rfl; have hcz54_1 : w52.cell? ⟨gb310, 1, none⟩ = some (.int .i64 a1_1) := (blk_cell BK310.out 1).trans rfl; have hcz54_2 : w52.cell? ⟨gb310, 2, none⟩ = some (.int .i64 a1_2) := (blk_cell BK310.out 2).trans rfl; have hcz54_3 : w52.cell? ⟨gb310, 3, none⟩ = some (.int .i64 a1_3) := (blk_cell BK310.out 3).trans rfl; have hcz54_4 : w52.cell? ⟨gb310, 4, none⟩ = some (.int .i64 a1_4) := (blk_cell BK310.out 4).trans rfl; have hcz54_5 : w52.cell? ⟨gb310, 5, none⟩ = some (.slice A1_5 l1_5.length c1_5) := (blk_cell BK310.out 5).trans rfl; have hcz54_6 : w52.cell? ⟨gb310, 6, none⟩ = some (.int .i64 a1_6) := (blk_cell BK310.out 6).trans rfl; have hcz54_7 : w52.cell? ⟨gb310, 7, none⟩ = some (.int .i64 a1_7) := (blk_cell BK310.out 7).trans rfl; have hcz54_8 : w52.cell? ⟨gb310, 8, none⟩ = some (.int .i64 a1_8) := (blk_cell BK310.out 8).trans rfl; have hcz54_9 : w52.cell? ⟨gb310, 9, none⟩ = some (.int .i64 a1_9) := (blk_cell BK310.out 9).trans rfl; have hcz54_10 : w52.cell? ⟨gb310, 10, none⟩ = some (.int .i64 a1_10) := (blk_cell BK310.out 10).trans rfl; have hfz54_0 := blk_frozen BK310.out 0; have hfz54_1 := blk_frozen BK310.out 1; have hfz54_2 := blk_frozen BK310.out 2; have hfz54_3 := blk_frozen BK310.out 3; have hfz54_4 := blk_frozen BK310.out 4; have hfz54_5 := blk_frozen BK310.out 5; have hfz54_6 := blk_frozen BK310.out 6; have hfz54_7 := blk_frozen BK310.out 7; have hfz54_8 := blk_frozen BK310.out 8; have hfz54_9 := blk_frozen BK310.out 9; have hfz54_10 := blk_frozen BK310.out 10) | ((with_reducible refine gC 127 ?_); refine cL (some 21) Try.func127 #[.slice A0_5 l0_5.length c0_5, .slice A1_5 l1_5.length c1_5] ?_; (with_reducible refine (laws_eqPointS.calls k _ _ l0_5 _ _ l1_5 _ _ (cS (Kd.C_below HR0_5.out HB.out)) HC0_5.out (cS (Kd.C_below HR1_5.out HB.out)) HC1_5.out A7.out).mono ?_); rintro e w55 ⟨rfl, hb⟩; refine ⟨_, rfl, ?_⟩; replace BK309 := kB (g := gb309) hb; replace BK310 := kB (g := gb310) hb; replace HB := hB hb; (try clear hb); (try clear hb2); (try clear hk); (try clear hi)))
    go_ret
    exact ⟨eS, bS⟩
  ·obtain rfl := Bool.eq_false_iff.mpr c6
   rw [if_neg nF] at H
   obtain rfl := Option.some.inj H
   go_enter Try.func136, Try.ntmps136
   go_wp2_with (first | ((with_reducible refine gD 2 ?_); refine bxE #[.slice A0_0 l0_0.length c0_0, .int .i64 a0_1, .int .i64 a0_2, .int .i64 a0_3, .int .i64 a0_4, .slice A0_5 l0_5.length c0_5, .int .i64 a0_6, .int .i64 a0_7, .int .i64 a0_8, .int .i64 a0_9, .int .i64 a0_10] 107 ?_; intro gb309 hg w56 BK309 hb; have GW309 := gE hg; have GE309 := gE hg; replace HB := hB hb; clear hb hg) | ((with_reducible refine gD 3 ?_); refine bxE #[.slice A1_0 l1_0.length c1_0, .int .i64 a1_1, .int .i64 a1_2, .int .i64 a1_3, .int .i64 a1_4, .slice A1_5 l1_5.length c1_5, .int .i64 a1_6, .int .i64 a1_7, .int .i64 a1_8, .int .i64 a1_9, .int .i64 a1_10] 107 ?_; intro gb310 hg w57 BK310 hb; have GW310 := gE hg; have GE310 := gE hg; have NB309_310 := nL (g := gb309) hg; have NB310_309 := nG (g := gb309) hg; replace BK309 := kB (g := gb309) hb; replace HB := hB hb; clear hb hg; have hnb58 := NB309_310.out; have hnc58 := NB310_309.out; have hcz59_0 : w57.cell? ⟨gb309, 0, none⟩ = some (.slice A0_0 l0_0.length c0_0) := (blk_cell BK309.out 0).trans rfl; have hcz59_1 : w57.cell? ⟨gb309, 1, none⟩ = some (.int .i64 a0_1) := (blk_cell BK309.out 1).trans rfl; have hcz59_2 : w57.cell? ⟨gb309, 2, none⟩ = some (.int .i64 a0_2) := (blk_cell BK309.out 2).trans rfl; have hcz59_3 : w57.cell? ⟨gb309, 3, none⟩ = some (.int .i64 a0_3) := (blk_cell BK309.out 3).trans rfl; have hcz59_4 : w57.cell? ⟨gb309, 4, none⟩ = some (.int .i64 a0_4) := (blk_cell BK309.out 4).trans rfl; have hcz59_5 : w57.cell? ⟨gb309, 5, none⟩ = some (.slice A0_5 l0_5.length c0_5) := (blk_cell BK309.out 5).trans rfl; have hcz59_6 : w57.cell? ⟨gb309, 6, none⟩ = some (.int .i64 a0_6) := (blk_cell BK309.out 6).trans rfl; have hcz59_7 : w57.cell? ⟨gb309, 7, none⟩ = some (.int .i64 a0_7) := (blk_cell BK309.out 7).trans rfl; have hcz59_8 : w57.cell? ⟨gb309, 8, none⟩ = some (.int .i64 a0_8) := (blk_cell BK309.out 8).trans rfl; have hcz59_9 : w57.cell? ⟨gb309, 9, none⟩ = some (.int .i64 a0_9) := (blk_cell BK309.out 9).trans rfl; have hcz59_10 : w57.cell? ⟨gb309, 10, none⟩ = some (.int .i64 a0_10) := (blk_cell BK309.out 10).trans rfl; have hfz59_0 := blk_frozen BK309.out 0; have hfz59_1 := blk_frozen BK309.out 1; have hfz59_2 := blk_frozen BK309.out 2; have hfz59_3 := blk_frozen BK309.out 3; have hfz59_4 := blk_frozen BK309.out 4; have hfz59_5 := blk_frozen BK309.out 5; have hfz59_6 := blk_frozen BK309.out 6; have hfz59_7 := blk_frozen BK309.out 7; have hfz59_8 := blk_frozen BK309.out 8; have hfz59_9 := blk_frozen BK309.out 9; have hfz59_10 := blk_frozen BK309.out 10; have hcz60_0 : w57.cell? ⟨gb310, 0, none⟩ = some (.slice A1_0 l1_0.length c1_0) := (blk_cell BK310.out 0).trans rfl; have hcz60_1 : w57.cell? ⟨gb310, 1, none⟩ = some (.int .i64 a1_1) := (blk_cell BK310.out 1).trans rfl; have hcz60_2 : w57.cell? ⟨gb310, 2, none⟩ = some (.int .i64 a1_2) := (blk_cell BK310.out 2).trans rfl; have hcz60_3 : w57.cell? ⟨gb310, 3, none⟩ = some (.int .i64 a1_3) := (blk_cell BK310.out 3).trans rfl; have hcz60_4 : w57.cell? ⟨gb310, 4, none⟩ = some (.int .i64 a1_4) := (blk_cell BK310.out 4).trans rfl; have hcz60_5 : w57.cell? ⟨gb310, 5, none⟩ = some (.slice A1_5 l1_5.length c1_5) := (blk_cell BK310.out 5).trans rfl; have hcz60_6 : w57.cell? ⟨gb310, 6, none⟩ = some (.int .i64 a1_6) := (blk_cell BK310.out 6).trans rfl; have hcz60_7 : w57.cell? ⟨gb310, 7, none⟩ = some (.int .i64 a1_7) := (blk_cell BK310.out 7).trans rfl; have hcz60_8 : w57.cell? ⟨gb310, 8, none⟩ = some (.int .i64 a1_8) := (blk_cell BK310.out 8).trans rfl; have hcz60_9 : w57.cell? ⟨gb310, 9, none⟩ = some (.int .i64 a1_9) := (blk_cell BK310.out 9).trans rfl; have hcz60_10 : w57.cell? ⟨gb310, 10, none⟩ = some (.int .i64 a1_10) := (blk_cell BK310.out 10).trans rfl; have hfz60_0 := blk_frozen BK310.out 0; have hfz60_1 := blk_frozen BK310.out 1; have hfz60_2 := blk_frozen BK310.out 2; have hfz60_3 := blk_frozen BK310.out 3; have hfz60_4 := blk_frozen BK310.out 4; have hfz60_5 := blk_frozen BK310.out 5; have hfz60_6 := blk_frozen BK310.out 6; have hfz60_7 := blk_frozen BK310.out 7; have hfz60_8 := blk_frozen BK310.out 8; have hfz60_9 := blk_frozen BK310.out 9; have hfz60_10 := blk_frozen BK310.out 10) | ((with_reducible refine gC 19 ?_); refine cL (some 9) Try.func19 #[.slice A0_0 l0_0.length c0_0, .slice A1_0 l1_0.length c1_0] ?_; (with_reducible refine (laws_eqIntS.calls k _ _ l0_0 _ _ l1_0 _ _ (cS (Kd.C_below HR0_0.out HB.out)) HC0_0.out (cS (Kd.C_below HR1_0.out HB.out)) HC1_0.out A3.out).mono ?_); rintro e w' ⟨rfl, ⟨nd, rfl⟩⟩; refine ⟨_, rfl, ?_⟩) | ((with_reducible refine gC 175 ?_); refine cL (some 15) Try.func175 #[.agg #[.int .i64 a0_1, .int .i64 a0_2, .int .i64 a0_3, .int .i64 a0_4], .agg #[.int .i64 a1_1, .int .i64 a1_2, .int .i64 a1_3, .int .i64 a1_4]] ?_; (with_reducible refine (laws_eqTurn.calls a0_1 a0_2 a0_3 a0_4 a1_1 a1_2 a1_3 a1_4 _ _ A5.out).mono ?_); rintro e w61 ⟨rfl, hb⟩; refine ⟨_, rfl, ?_⟩; replace BK309 := kB (g := gb309) hb; replace BK310 := kB (g := gb310) hb; replace HB := hB hb; (try clear hb); (try clear hb2); (try clear hk); (try clear hi)))
   go_ret
   exact ⟨eS, bS⟩
 ·obtain rfl := Bool.eq_false_iff.mpr c4
  rw [if_neg nF] at H
  obtain rfl := Option.some.inj H
  exact laws_eqGraphics.lf0

end Go.Proofs.Ytimpejidlnjhlaa.QFnExactPageOk
