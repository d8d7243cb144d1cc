-- Made out of the translation by a program of this session (a changed copy of the print). Not trusted: Lean checks it.
import Derived.Test.YtncfipboidmfbaaGreatQFnExactMergeBandx0
import Derived.Test.YtncfipboidmfbaaGreatQFnExactMergeBandx2
namespace Go.Proofs.YtncfipboidmfbaaGreat.QFnExactMergeBand
open Go.RowKit Go.Proofs.YtncfipboidmfbaaGreatW.PrintWords Go.Proofs.YtncfipboidmfbaaGreatW.PrintLast Go.Proofs.YtncfipboidmfbaaGreatW.PrintMore
attribute [local go_sem] max2_int min2_int max_two min_two max_three min_three max_four min_four   -- for this text's walks alone
set_option linter.unusedVariables false
set_option linter.unusedSimpArgs false
set_option maxHeartbeats 8000000
set_option maxRecDepth 100000

/-! ### laws_eqObjectS: function 48 -/
def laws_eqObjectS.l0 : Nat → List (S49) → List (S49) → Int → Option (Bool)
 | 0, _, _, _ => none
 | k + 1, x0, x1, x5 => if x5 < (x0.length : Int) then (if 0 ≤ x5 then (if x5 < (x1.length : Int) then ((laws_eqObject.f k ((rd_T49 x0 x5).f0) ((rd_T49 x0 x5).f1) ((rd_T49 x0 x5).f2.f0) ((rd_T49 x0 x5).f2.f1) ((rd_T49 x0 x5).f2.f2) ((rd_T49 x0 x5).f2.f3) ((rd_T49 x1 x5).f0) ((rd_T49 x1 x5).f1) ((rd_T49 x1 x5).f2.f0) ((rd_T49 x1 x5).f2.f1) ((rd_T49 x1 x5).f2.f2) ((rd_T49 x1 x5).f2.f3)).bind fun t186 => (if t186 = true then (laws_eqObjectS.l0 k x0 x1 (wrap64 (x5 + 1))) else (some false))) else (none)) else (none)) else (some true)
def laws_eqObjectS.f (k : Nat) (l0 : List (S49)) (l1 : List (S49)) : Option (Bool) := if (l0.length : Int) = (l1.length : Int) then (laws_eqObjectS.l0 k l0 l1 0) else (some false)
def laws_eqObjectS.T6 : Bool × List (List Nat × List Nat) := (true, [([], []), ([], []), ([0, 1], [0, 1]), ([2], [2]), ([], []), ([], []), ([4, 5], [4, 5]), ([6], [6]), ([3, 7], [3, 7]), ([8], [8])])
def laws_eqObjectS.B6 : List Nat := [0, 0, 3, 7, 0, 0, 48, 112, 255, 511]
theorem laws_eqObjectS.tab6 : rtab .any (opsOf Tryz.f48 6) = laws_eqObjectS.T6 := by kernel_rfl
theorem laws_eqObjectS.bits6 : waitsOk laws_eqObjectS.T6.2 laws_eqObjectS.B6 = true := by kernel_rfl
theorem laws_eqObjectS.calls (k : Nat) (A0 : Option Addr) (c0 : Nat) (l0 : List (S49)) (A1 : Option Addr) (c1 : Nat) (l1 : List (S49)) (r : Bool) (w : World) (hr0 : Kd.C k49 w A0 l0.length l0) (hc0 : l0.length ≤ c0) (hr1 : Kd.C k49 w A1 l1.length l1) (hc1 : l1.length ≤ c1) (h : laws_eqObjectS.f k l0 l1 = some r) :
  Calls Tryz.prog 48 #[.slice A0 l0.length c0, .slice A1 l1.length c1] w fun e w' => e = .returned (.bool r) ∧ Below w.heap.size w w' := by
 have hu49 := Tryz.underlying49
 have HR0 := Aside0.mk hr0
 have HC0 := Aside0.mk hc0
 clear hr0 hc0
 have HR1 := Aside0.mk hr1
 have HC1 := Aside0.mk hc1
 clear hr1 hc1
 have HB := Aside0.mk (Below.refl w.heap.size w)
 have H : (if (l0.length : Int) = (l1.length : Int) then (laws_eqObjectS.l0 k l0 l1 0) else (some false)) = some r := h
 clear h
 by_cases c3 : (l0.length : Int) = (l1.length : Int)
 ·rw [if_pos c3] at H
  have c3b0 : ((l0.length : Int) == (l1.length : Int)) = true := beq_iff_eq.mpr c3
  have c3b1 : ((l0.length : Int) != (l1.length : Int)) = false := bne_eq_false_iff_eq.mpr c3
  have c3b2 : (l0.length == l1.length) = true := by first | simpa using c3 | (simp at c3 ⊢; omega)
  clear c3
  have H' := Aside0.mk H
  clear H
  go_enter Tryz.func48, Tryz.ntmps48
  go_wp2
  go_loopg [5] k (fun kq v5 w' => ∃ (x5_1 : Int), v5 = .int .i64 x5_1 ∧ Aside0 (laws_eqObjectS.l0 kq l0 l1 x5_1 = some r) ∧ Aside0 (kq ≤ k) ∧ Aside0 (Below w.heap.size w w'))
  case atStart => exact ⟨(0), fS, H', ⟨Nat.le_refl _⟩, ⟨bS⟩⟩
  case round =>
   clear H'
   try clear c1
   try clear p2
   try clear c3
   try clear c3b0
   try clear c3b1
   try clear c3b2
   obtain ⟨x5_1, rfl, HA, HK1, HB⟩ := hrel
   cases gk with
   | zero => exact absurd HA.out (by simp [laws_eqObjectS.l0])
   | succ k1 =>
    have H := HA.out
    clear HA
    simp only [laws_eqObjectS.l0] at H
    rcases iD H with ⟨c4b0, H⟩ | ⟨c4b0, H⟩
    ·obtain ⟨c5b0, H⟩ := iT H
     obtain ⟨c6b0, H⟩ := iT H
     replace H := bN H
     obtain ⟨t186, A7, H⟩ := H
     by_cases c8 : t186 = true
     ·subst c8
      rw [if_pos rfl] at H
      have H' := Aside0.mk H
      clear H
      try go_wp2
      replace HB := Aside0.mk (below_drew1 HB.out)
      have p184 : 0 ≤ (x5_1 : Int) := dA
      have q184 : x5_1 < (l0.length : Int) := dA
      obtain ⟨ad184, A184_0, c184_0, e184, hx184_0, hx184_1, hx184_2, hx184_3, hx184_4, hx184_5, hl184_0, hi184_0⟩ := at_T49 HR0.out x5_1 p184 q184
      have hw184_5 := hx184_5
      have hw184_4 := hx184_4
      have hw184_3 := hx184_3
      have hw184_2 := hx184_2
      have hw184_1 := hx184_1
      have hw184_0 := hx184_0
      cases e184
      replace hx184_0 := cB HB hx184_0
      replace hx184_1 := cB HB hx184_1
      replace hx184_2 := cB HB hx184_2
      replace hx184_3 := cB HB hx184_3
      replace hx184_4 := cB HB hx184_4
      replace hx184_5 := cB HB hx184_5
      have HR184_0 := Aside0.mk hi184_0
      have HC184_0 := Aside0.mk hl184_0
      clear hi184_0 hl184_0
      replace p184 := eq_true p184
      replace q184 := eq_true q184
      have p185 : 0 ≤ (x5_1 : Int) := dA
      have q185 : x5_1 < (l1.length : Int) := dA
      obtain ⟨ad185, A185_0, c185_0, e185, hx185_0, hx185_1, hx185_2, hx185_3, hx185_4, hx185_5, hl185_0, hi185_0⟩ := at_T49 HR1.out x5_1 p185 q185
      have hw185_5 := hx185_5
      have hw185_4 := hx185_4
      have hw185_3 := hx185_3
      have hw185_2 := hx185_2
      have hw185_1 := hx185_1
      have hw185_0 := hx185_0
      cases e185
      replace hx185_0 := cB HB hx185_0
      replace hx185_1 := cB HB hx185_1
      replace hx185_2 := cB HB hx185_2
      replace hx185_3 := cB HB hx185_3
      replace hx185_4 := cB HB hx185_4
      replace hx185_5 := cB HB hx185_5
      have HR185_0 := Aside0.mk hi185_0
      have HC185_0 := Aside0.mk hl185_0
      clear hi185_0 hl185_0
      replace p185 := eq_true p185
      replace q185 := eq_true q185
      refine start_ (n := 10) (S := fun w' => w'.cell? (ad184.add ((x5_1).toNat * 6)) = some (.slice A184_0 ((rd_T49 l0 x5_1).f0).length c184_0) ∧ w'.cell? ⟨(ad184.add ((x5_1).toNat * 6)).block, (ad184.add ((x5_1).toNat * 6)).off + 1, none⟩ = some (.int .i64 ((rd_T49 l0 x5_1).f1)) ∧ w'.cell? ⟨(ad184.add ((x5_1).toNat * 6)).block, (ad184.add ((x5_1).toNat * 6)).off + 2, none⟩ = some (.int .i64 ((rd_T49 l0 x5_1).f2.f0)) ∧ w'.cell? ⟨(ad184.add ((x5_1).toNat * 6)).block, (ad184.add ((x5_1).toNat * 6)).off + 3, none⟩ = some (.int .i64 ((rd_T49 l0 x5_1).f2.f1)) ∧ w'.cell? ⟨(ad184.add ((x5_1).toNat * 6)).block, (ad184.add ((x5_1).toNat * 6)).off + 4, none⟩ = some (.int .i64 ((rd_T49 l0 x5_1).f2.f2)) ∧ w'.cell? ⟨(ad184.add ((x5_1).toNat * 6)).block, (ad184.add ((x5_1).toNat * 6)).off + 5, none⟩ = some (.int .i64 ((rd_T49 l0 x5_1).f2.f3)) ∧ w'.cell? (ad185.add ((x5_1).toNat * 6)) = some (.slice A185_0 ((rd_T49 l1 x5_1).f0).length c185_0) ∧ w'.cell? ⟨(ad185.add ((x5_1).toNat * 6)).block, (ad185.add ((x5_1).toNat * 6)).off + 1, none⟩ = some (.int .i64 ((rd_T49 l1 x5_1).f1)) ∧ w'.cell? ⟨(ad185.add ((x5_1).toNat * 6)).block, (ad185.add ((x5_1).toNat * 6)).off + 2, none⟩ = some (.int .i64 ((rd_T49 l1 x5_1).f2.f0)) ∧ w'.cell? ⟨(ad185.add ((x5_1).toNat * 6)).block, (ad185.add ((x5_1).toNat * 6)).off + 3, none⟩ = some (.int .i64 ((rd_T49 l1 x5_1).f2.f1)) ∧ w'.cell? ⟨(ad185.add ((x5_1).toNat * 6)).block, (ad185.add ((x5_1).toNat * 6)).off + 4, none⟩ = some (.int .i64 ((rd_T49 l1 x5_1).f2.f2)) ∧ w'.cell? ⟨(ad185.add ((x5_1).toNat * 6)).block, (ad185.add ((x5_1).toNat * 6)).off + 5, none⟩ = some (.int .i64 ((rd_T49 l1 x5_1).f2.f3))) (ds := []) #[false, false, false, false, false, false, false, false, false, false] (by kernel_rfl) rfl rfl ⟨(cB HB hw184_0), (cB HB hw184_1), (cB HB hw184_2), (cB HB hw184_3), (cB HB hw184_4), (cB HB hw184_5), (cB HB hw185_0), (cB HB hw185_1), (cB HB hw185_2), (cB HB hw185_3), (cB HB hw185_4), (cB HB hw185_5)⟩ (fun hHeld => ?_); refine with_tabW laws_eqObjectS.tab6 laws_eqObjectS.bits6 (fun HT_ HW_ => ?_)
      generalize wr.drew = w9 at HB HR184_0 HR185_0 hx184_0 hx184_1 hx184_2 hx184_3 hx184_4 hx184_5 hx185_0 hx185_1 hx185_2 hx185_3 hx185_4 hx185_5 hHeld ⊢
      refine pU 0 (some 17) #[true, false, false, false, false, false, false, false, false, false] ?_
      refine pU 1 (some 18) #[true, true, false, false, false, false, false, false, false, false] ?_
      refine pU 2 (some 19) #[true, true, true, false, false, false, false, false, false, false] ?_
      refine pU 4 (some 21) #[true, true, true, false, true, false, false, false, false, false] ?_
      refine pU 5 (some 22) #[true, true, true, false, true, true, false, false, false, false] ?_
      refine pU 6 (some 23) #[true, true, true, false, true, true, true, false, false, false] ?_
      refine tK 3 (some 20) #[true, true, true, true, true, true, true, false, false, false] ?_
      refine tK 7 (some 24) #[true, true, true, true, true, true, true, true, false, false] ?_
      refine one_ (i := 8) (N := some 25) #[true, true, true, true, true, true, true, true, true, false] rfl rfl (one_of HT_.out (by kernel_rfl)) (by decide) (fun K hK => ?_)
      refine goes_ Tryz.func24 (by kernel_rfl) rfl #[.agg #[.slice A184_0 ((rd_T49 l0 x5_1).f0).length c184_0, .int .i64 ((rd_T49 l0 x5_1).f1), .int .i64 ((rd_T49 l0 x5_1).f2.f0), .int .i64 ((rd_T49 l0 x5_1).f2.f1), .int .i64 ((rd_T49 l0 x5_1).f2.f2), .int .i64 ((rd_T49 l0 x5_1).f2.f3)], .agg #[.slice A185_0 ((rd_T49 l1 x5_1).f0).length c185_0, .int .i64 ((rd_T49 l1 x5_1).f1), .int .i64 ((rd_T49 l1 x5_1).f2.f0), .int .i64 ((rd_T49 l1 x5_1).f2.f1), .int .i64 ((rd_T49 l1 x5_1).f2.f2), .int .i64 ((rd_T49 l1 x5_1).f2.f3)]] (by rfl) rfl rfl (by (try simp only [List.map_toArray, List.map_cons, List.map_nil]); first | done | rfl | (simp only [List.length_drop, List.length_take]; rfl)) ?_
      with_reducible refine (laws_eqObject.calls k1 _ _ ((rd_T49 l0 x5_1).f0) ((rd_T49 l0 x5_1).f1) ((rd_T49 l0 x5_1).f2.f0) ((rd_T49 l0 x5_1).f2.f1) ((rd_T49 l0 x5_1).f2.f2) ((rd_T49 l0 x5_1).f2.f3) _ _ ((rd_T49 l1 x5_1).f0) ((rd_T49 l1 x5_1).f1) ((rd_T49 l1 x5_1).f2.f0) ((rd_T49 l1 x5_1).f2.f1) ((rd_T49 l1 x5_1).f2.f2) ((rd_T49 l1 x5_1).f2.f3) _ _ ?side1 ?side2 ?side3 ?side4 A7.out).mono ?_
      (case side1 => exact cS (Kd.C_below HR184_0.out HB.out))
      (case side2 => exact HC184_0.out)
      (case side3 => exact cS (Kd.C_below HR185_0.out HB.out))
      (case side4 => exact HC185_0.out)
      rintro e w10 ⟨rfl, hb⟩
      refine ⟨_, rfl, ?_⟩
      replace HB := hB hb
      (try clear hb)
      (try clear hb2)
      (try clear hk)
      (try clear hi)
      refine hK.out _ _ ⟨(cB HB hw184_0), (cB HB hw184_1), (cB HB hw184_2), (cB HB hw184_3), (cB HB hw184_4), (cB HB hw184_5), (cB HB hw185_0), (cB HB hw185_1), (cB HB hw185_2), (cB HB hw185_3), (cB HB hw185_4), (cB HB hw185_5)⟩ (fun hHeld => ?_)
      clear hK K
      refine norm_ (a' := ?_) ?_ ?_
      rotate_left
      ·show Act.put _ (some 25) _ = _
       simp only [Act.put, List.setIfInBounds_toArray, List.set_cons_zero, List.set_cons_succ, i64_w, i32_w]
       rfl
      refine pU 9 (some 26) #[true, true, true, true, true, true, true, true, true, true] ?_
      refine done_ (done_of HT_.out (by kernel_rfl)) ?_
      try go_wp2
      go_roundg k1
      case measure => have := HK1.out; omega
      case rel => exact ⟨(wrap64 (x5_1 + 1)), fS, H', ⟨by have := HK1.out; omega⟩, ⟨bS⟩⟩
     ·obtain rfl := Bool.eq_false_iff.mpr c8
      rw [if_neg nF] at H
      obtain rfl := Option.some.inj H
      try go_wp2
      replace HB := Aside0.mk (below_drew1 HB.out)
      have p184 : 0 ≤ (x5_1 : Int) := dA
      have q184 : x5_1 < (l0.length : Int) := dA
      obtain ⟨ad184, A184_0, c184_0, e184, hx184_0, hx184_1, hx184_2, hx184_3, hx184_4, hx184_5, hl184_0, hi184_0⟩ := at_T49 HR0.out x5_1 p184 q184
      have hw184_5 := hx184_5
      have hw184_4 := hx184_4
      have hw184_3 := hx184_3
      have hw184_2 := hx184_2
      have hw184_1 := hx184_1
      have hw184_0 := hx184_0
      cases e184
      replace hx184_0 := cB HB hx184_0
      replace hx184_1 := cB HB hx184_1
      replace hx184_2 := cB HB hx184_2
      replace hx184_3 := cB HB hx184_3
      replace hx184_4 := cB HB hx184_4
      replace hx184_5 := cB HB hx184_5
      have HR184_0 := Aside0.mk hi184_0
      have HC184_0 := Aside0.mk hl184_0
      clear hi184_0 hl184_0
      replace p184 := eq_true p184
      replace q184 := eq_true q184
      have p185 : 0 ≤ (x5_1 : Int) := dA
      have q185 : x5_1 < (l1.length : Int) := dA
      obtain ⟨ad185, A185_0, c185_0, e185, hx185_0, hx185_1, hx185_2, hx185_3, hx185_4, hx185_5, hl185_0, hi185_0⟩ := at_T49 HR1.out x5_1 p185 q185
      have hw185_5 := hx185_5
      have hw185_4 := hx185_4
      have hw185_3 := hx185_3
      have hw185_2 := hx185_2
      have hw185_1 := hx185_1
      have hw185_0 := hx185_0
      cases e185
      replace hx185_0 := cB HB hx185_0
      replace hx185_1 := cB HB hx185_1
      replace hx185_2 := cB HB hx185_2
      replace hx185_3 := cB HB hx185_3
      replace hx185_4 := cB HB hx185_4
      replace hx185_5 := cB HB hx185_5
      have HR185_0 := Aside0.mk hi185_0
      have HC185_0 := Aside0.mk hl185_0
      clear hi185_0 hl185_0
      replace p185 := eq_true p185
      replace q185 := eq_true q185
      refine start_ (n := 10) (S := fun w' => w'.cell? (ad184.add ((x5_1).toNat * 6)) = some (.slice A184_0 ((rd_T49 l0 x5_1).f0).length c184_0) ∧ w'.cell? ⟨(ad184.add ((x5_1).toNat * 6)).block, (ad184.add ((x5_1).toNat * 6)).off + 1, none⟩ = some (.int .i64 ((rd_T49 l0 x5_1).f1)) ∧ w'.cell? ⟨(ad184.add ((x5_1).toNat * 6)).block, (ad184.add ((x5_1).toNat * 6)).off + 2, none⟩ = some (.int .i64 ((rd_T49 l0 x5_1).f2.f0)) ∧ w'.cell? ⟨(ad184.add ((x5_1).toNat * 6)).block, (ad184.add ((x5_1).toNat * 6)).off + 3, none⟩ = some (.int .i64 ((rd_T49 l0 x5_1).f2.f1)) ∧ w'.cell? ⟨(ad184.add ((x5_1).toNat * 6)).block, (ad184.add ((x5_1).toNat * 6)).off + 4, none⟩ = some (.int .i64 ((rd_T49 l0 x5_1).f2.f2)) ∧ w'.cell? ⟨(ad184.add ((x5_1).toNat * 6)).block, (ad184.add ((x5_1).toNat * 6)).off + 5, none⟩ = some (.int .i64 ((rd_T49 l0 x5_1).f2.f3)) ∧ w'.cell? (ad185.add ((x5_1).toNat * 6)) = some (.slice A185_0 ((rd_T49 l1 x5_1).f0).length c185_0) ∧ w'.cell? ⟨(ad185.add ((x5_1).toNat * 6)).block, (ad185.add ((x5_1).toNat * 6)).off + 1, none⟩ = some (.int .i64 ((rd_T49 l1 x5_1).f1)) ∧ w'.cell? ⟨(ad185.add ((x5_1).toNat * 6)).block, (ad185.add ((x5_1).toNat * 6)).off + 2, none⟩ = some (.int .i64 ((rd_T49 l1 x5_1).f2.f0)) ∧ w'.cell? ⟨(ad185.add ((x5_1).toNat * 6)).block, (ad185.add ((x5_1).toNat * 6)).off + 3, none⟩ = some (.int .i64 ((rd_T49 l1 x5_1).f2.f1)) ∧ w'.cell? ⟨(ad185.add ((x5_1).toNat * 6)).block, (ad185.add ((x5_1).toNat * 6)).off + 4, none⟩ = some (.int .i64 ((rd_T49 l1 x5_1).f2.f2)) ∧ w'.cell? ⟨(ad185.add ((x5_1).toNat * 6)).block, (ad185.add ((x5_1).toNat * 6)).off + 5, none⟩ = some (.int .i64 ((rd_T49 l1 x5_1).f2.f3))) (ds := []) #[false, false, false, false, false, false, false, false, false, false] (by kernel_rfl) rfl rfl ⟨(cB HB hw184_0), (cB HB hw184_1), (cB HB hw184_2), (cB HB hw184_3), (cB HB hw184_4), (cB HB hw184_5), (cB HB hw185_0), (cB HB hw185_1), (cB HB hw185_2), (cB HB hw185_3), (cB HB hw185_4), (cB HB hw185_5)⟩ (fun hHeld => ?_); refine with_tabW laws_eqObjectS.tab6 laws_eqObjectS.bits6 (fun HT_ HW_ => ?_)
      generalize wr.drew = w11 at HB HR184_0 HR185_0 hx184_0 hx184_1 hx184_2 hx184_3 hx184_4 hx184_5 hx185_0 hx185_1 hx185_2 hx185_3 hx185_4 hx185_5 hHeld ⊢
      refine pU 0 (some 17) #[true, false, false, false, false, false, false, false, false, false] ?_
      refine pU 1 (some 18) #[true, true, false, false, false, false, false, false, false, false] ?_
      refine pU 2 (some 19) #[true, true, true, false, false, false, false, false, false, false] ?_
      refine pU 4 (some 21) #[true, true, true, false, true, false, false, false, false, false] ?_
      refine pU 5 (some 22) #[true, true, true, false, true, true, false, false, false, false] ?_
      refine pU 6 (some 23) #[true, true, true, false, true, true, true, false, false, false] ?_
      refine tK 3 (some 20) #[true, true, true, true, true, true, true, false, false, false] ?_
      refine tK 7 (some 24) #[true, true, true, true, true, true, true, true, false, false] ?_
      refine one_ (i := 8) (N := some 25) #[true, true, true, true, true, true, true, true, true, false] rfl rfl (one_of HT_.out (by kernel_rfl)) (by decide) (fun K hK => ?_)
      refine goes_ Tryz.func24 (by kernel_rfl) rfl #[.agg #[.slice A184_0 ((rd_T49 l0 x5_1).f0).length c184_0, .int .i64 ((rd_T49 l0 x5_1).f1), .int .i64 ((rd_T49 l0 x5_1).f2.f0), .int .i64 ((rd_T49 l0 x5_1).f2.f1), .int .i64 ((rd_T49 l0 x5_1).f2.f2), .int .i64 ((rd_T49 l0 x5_1).f2.f3)], .agg #[.slice A185_0 ((rd_T49 l1 x5_1).f0).length c185_0, .int .i64 ((rd_T49 l1 x5_1).f1), .int .i64 ((rd_T49 l1 x5_1).f2.f0), .int .i64 ((rd_T49 l1 x5_1).f2.f1), .int .i64 ((rd_T49 l1 x5_1).f2.f2), .int .i64 ((rd_T49 l1 x5_1).f2.f3)]] (by rfl) rfl rfl (by (try simp only [List.map_toArray, List.map_cons, List.map_nil]); first | done | rfl | (simp only [List.length_drop, List.length_take]; rfl)) ?_
      with_reducible refine (laws_eqObject.calls k1 _ _ ((rd_T49 l0 x5_1).f0) ((rd_T49 l0 x5_1).f1) ((rd_T49 l0 x5_1).f2.f0) ((rd_T49 l0 x5_1).f2.f1) ((rd_T49 l0 x5_1).f2.f2) ((rd_T49 l0 x5_1).f2.f3) _ _ ((rd_T49 l1 x5_1).f0) ((rd_T49 l1 x5_1).f1) ((rd_T49 l1 x5_1).f2.f0) ((rd_T49 l1 x5_1).f2.f1) ((rd_T49 l1 x5_1).f2.f2) ((rd_T49 l1 x5_1).f2.f3) _ _ ?side1 ?side2 ?side3 ?side4 A7.out).mono ?_
      (case side1 => exact cS (Kd.C_below HR184_0.out HB.out))
      (case side2 => exact HC184_0.out)
      (case side3 => exact cS (Kd.C_below HR185_0.out HB.out))
      (case side4 => exact HC185_0.out)
      rintro e w12 ⟨rfl, hb⟩
      refine ⟨_, rfl, ?_⟩
      replace HB := hB hb
      (try clear hb)
      (try clear hb2)
      (try clear hk)
      (try clear hi)
      refine hK.out _ _ ⟨(cB HB hw184_0), (cB HB hw184_1), (cB HB hw184_2), (cB HB hw184_3), (cB HB hw184_4), (cB HB hw184_5), (cB HB hw185_0), (cB HB hw185_1), (cB HB hw185_2), (cB HB hw185_3), (cB HB hw185_4), (cB HB hw185_5)⟩ (fun hHeld => ?_)
      clear hK K
      refine norm_ (a' := ?_) ?_ ?_
      rotate_left
      ·show Act.put _ (some 25) _ = _
       simp only [Act.put, List.setIfInBounds_toArray, List.set_cons_zero, List.set_cons_succ, i64_w, i32_w]
       rfl
      refine pU 9 (some 26) #[true, true, true, true, true, true, true, true, true, true] ?_
      refine done_ (done_of HT_.out (by kernel_rfl)) ?_
      try go_wp2
      go_ret
      exact ⟨eS, bS⟩
    ·obtain rfl := Option.some.inj H
     go_wp2
     go_ret
     exact ⟨eS, bS⟩
 ·rw [if_neg c3] at H
  have c3b0 : ((l0.length : Int) == (l1.length : Int)) = false := beq_eq_false_iff_ne.mpr c3
  have c3b1 : ((l0.length : Int) != (l1.length : Int)) = true := bne_iff_ne.mpr c3
  have c3b2 : (l0.length == l1.length) = false := by first | simpa using c3 | (simp at c3 ⊢; omega)
  obtain rfl := Option.some.inj H
  go_enter Tryz.func48, Tryz.ntmps48
  go_wp2
  go_ret
  exact ⟨eS, bS⟩

/-! ### laws_eqBand: function 13 -/
def laws_eqBand.f (k : Nat) (a0_0 : Int) (a0_1 : Int) (l0_2 : List (List Int)) (l0_3 : List (S49)) (a1_0 : Int) (a1_1 : Int) (l1_2 : List (List Int)) (l1_3 : List (S49)) : Option (Bool) := if a0_0 = a1_0 then (if a0_1 = a1_1 then ((laws_eqIntSS.f k l0_2 l1_2).bind fun t189 => (if t189 = true then ((laws_eqObjectS.f k l0_3 l1_3).bind fun t190 => (if t190 = true then (some true) else (some false))) else (some false))) else (some false)) else (some false)
theorem laws_eqBand.lf0 {p : Prop} (h : p := by
 go_enter Tryz.func13, Tryz.ntmps13
 go_wp2_with (first | ((with_reducible refine gD 2 ?_); refine bxE #[.int .i64 a0_0, .int .i64 a0_1, .slice A0_2 l0_2.length c0_2, .slice A0_3 l0_3.length c0_3] 30 ?_; intro gb187 hg w15 BK187 hb; have GW187 := gE hg; have GE187 := gE hg; replace HB := hB hb; clear hb hg) | ((with_reducible refine gD 3 ?_); refine bxE #[.int .i64 a1_0, .int .i64 a1_1, .slice A1_2 l1_2.length c1_2, .slice A1_3 l1_3.length c1_3] 30 ?_; intro gb188 hg w16 BK188 hb; have GW188 := gE hg; have GE188 := gE hg; have NB187_188 := nL (g := gb187) hg; have NB188_187 := nG (g := gb187) hg; replace BK187 := kB (g := gb187) hb; replace HB := hB hb; clear hb hg; have hnb17 := NB187_188.out; have hnc17 := NB188_187.out; have hz18 := cz4 BK187; have hz19 := cz4 BK188) | ((with_reducible refine gC 12 ?_); refine cL (some 19) Tryz.func12 #[.slice A0_2 l0_2.length c0_2, .slice A1_2 l1_2.length c1_2] ?_; (with_reducible refine (laws_eqIntSS.calls k _ _ l0_2 _ _ l1_2 _ _ (cS (Kd.C_below HR0_2.out HB.out)) HC0_2.out (cS (Kd.C_below HR1_2.out HB.out)) HC1_2.out A5.out).mono ?_); rintro e w' ⟨rfl, ⟨nd, rfl⟩⟩; refine ⟨_, rfl, ?_⟩) | ((with_reducible refine gC 48 ?_); refine cL (some 25) Tryz.func48 #[.slice A0_3 l0_3.length c0_3, .slice A1_3 l1_3.length c1_3] ?_; (with_reducible refine (laws_eqObjectS.calls k _ _ l0_3 _ _ l1_3 _ _ (cS (Kd.C_below HR0_3.out bS)) HC0_3.out (cS (Kd.C_below HR1_3.out bS)) HC1_3.out A7.out).mono ?_); rintro e w20 ⟨rfl, hb⟩; refine ⟨_, rfl, ?_⟩; replace BK187 := kB (g := gb187) hb; replace BK188 := kB (g := gb188) hb; replace HB := hB hb; (try clear hb); (try clear hb2); (try clear hk); (try clear hi)))
 go_ret
 exact ⟨eS, bS⟩) : p := h
theorem laws_eqBand.calls (k : Nat) (a0_0 : Int) (a0_1 : Int) (A0_2 : Option Addr) (c0_2 : Nat) (l0_2 : List (List Int)) (A0_3 : Option Addr) (c0_3 : Nat) (l0_3 : List (S49)) (a1_0 : Int) (a1_1 : Int) (A1_2 : Option Addr) (c1_2 : Nat) (l1_2 : List (List Int)) (A1_3 : Option Addr) (c1_3 : Nat) (l1_3 : List (S49)) (r : Bool) (w : World) (hr0_2 : Kd.C (Kd.slice 3 (Kd.int .i64)) w A0_2 l0_2.length l0_2) (hc0_2 : l0_2.length ≤ c0_2) (hr0_3 : Kd.C k49 w A0_3 l0_3.length l0_3) (hc0_3 : l0_3.length ≤ c0_3) (hr1_2 : Kd.C (Kd.slice 3 (Kd.int .i64)) w A1_2 l1_2.length l1_2) (hc1_2 : l1_2.length ≤ c1_2) (hr1_3 : Kd.C k49 w A1_3 l1_3.length l1_3) (hc1_3 : l1_3.length ≤ c1_3) (h : laws_eqBand.f k a0_0 a0_1 l0_2 l0_3 a1_0 a1_1 l1_2 l1_3 = some r) :
  Calls Tryz.prog 13 #[.agg #[.int .i64 a0_0, .int .i64 a0_1, .slice A0_2 l0_2.length c0_2, .slice A0_3 l0_3.length c0_3], .agg #[.int .i64 a1_0, .int .i64 a1_1, .slice A1_2 l1_2.length c1_2, .slice A1_3 l1_3.length c1_3]] w fun e w' => e = .returned (.bool r) ∧ Below w.heap.size w w' := by
 have hu30 := Tryz.underlying30
 have HR0_2 := Aside0.mk hr0_2
 have HC0_2 := Aside0.mk hc0_2
 clear hr0_2 hc0_2
 have HR0_3 := Aside0.mk hr0_3
 have HC0_3 := Aside0.mk hc0_3
 clear hr0_3 hc0_3
 have HR1_2 := Aside0.mk hr1_2
 have HC1_2 := Aside0.mk hc1_2
 clear hr1_2 hc1_2
 have HR1_3 := Aside0.mk hr1_3
 have HC1_3 := Aside0.mk hc1_3
 clear hr1_3 hc1_3
 have HB := Aside0.mk (Below.refl w.heap.size w)
 have H : (if a0_0 = a1_0 then (if a0_1 = a1_1 then ((laws_eqIntSS.f k l0_2 l1_2).bind fun t189 => (if t189 = true then ((laws_eqObjectS.f k l0_3 l1_3).bind fun t190 => (if t190 = true then (some true) else (some false))) else (some false))) else (some false)) else (some false)) = some r := h
 clear h
 by_cases c3 : a0_0 = a1_0
 ·rw [if_pos c3] at H
  have c3b0 : (a0_0 == a1_0) = true := beq_iff_eq.mpr c3
  have c3b1 : (a0_0 != a1_0) = false := bne_eq_false_iff_eq.mpr c3
  clear c3
  by_cases c4 : a0_1 = a1_1
  ·rw [if_pos c4] at H
   have c4b0 : (a0_1 == a1_1) = true := beq_iff_eq.mpr c4
   have c4b1 : (a0_1 != a1_1) = false := bne_eq_false_iff_eq.mpr c4
   clear c4
   replace H := bN H
   obtain ⟨t189, A5, H⟩ := H
   by_cases c6 : t189 = true
   ·subst c6
    rw [if_pos rfl] at H
    replace H := bN H
    obtain ⟨t190, A7, H⟩ := H
    by_cases c8 : t190 = true
    ·subst c8
     rw [if_pos rfl] at H
     obtain rfl := Option.some.inj H
     exact laws_eqBand.lf0
    ·obtain rfl := Bool.eq_false_iff.mpr c8
     rw [if_neg nF] at H
     obtain rfl := Option.some.inj H
     exact laws_eqBand.lf0
   ·obtain rfl := Bool.eq_false_iff.mpr c6
    rw [if_neg nF] at H
    obtain rfl := Option.some.inj H
    exact laws_eqBand.lf0
  ·rw [if_neg c4] at H
   have c4b0 : (a0_1 == a1_1) = false := beq_eq_false_iff_ne.mpr c4
   have c4b1 : (a0_1 != a1_1) = true := bne_iff_ne.mpr c4
   obtain rfl := Option.some.inj H
   exact laws_eqBand.lf0
 ·rw [if_neg c3] at H
  have c3b0 : (a0_0 == a1_0) = false := beq_eq_false_iff_ne.mpr c3
  have c3b1 : (a0_0 != a1_0) = true := bne_iff_ne.mpr c3
  obtain rfl := Option.some.inj H
  exact laws_eqBand.lf0

/-! ### laws_markIntS: function 50 -/
def laws_markIntS.l0 : Nat → List Int → Int → Int → Option (Int × List Int)
 | 0, _, _, _ => none
 | k + 1, x0, x1, x5 => if x5 < (x0.length : Int) then (if 0 ≤ x5 then (laws_markIntS.l0 k (x0.set (x5 : Int).toNat x1) (wrap64 (x1 + 1)) (wrap64 (x5 + 1))) else (none)) else (some (x1, x0))
def laws_markIntS.f (k : Nat) (l0 : List Int) (a1 : Int) : Option (Int × List Int) := laws_markIntS.l0 k l0 a1 0
theorem laws_markIntS.calls (k : Nat) (P0_ : Nat → Prop) (u9000_ : Value) (l0 : List Int) (a1 : Int) (r1 : Int) (r2 : List Int) (w0 w : World) (hB : Below w0.heap.size w0 w) (ho0 : Kd.R (Kd.int .i64) 3 w w0.heap.size P0_ u9000_ l0) (h : laws_markIntS.f k l0 a1 = some (r1, r2)) :
  Calls Tryz.prog 50 #[u9000_, .int .i64 a1] w fun e w' => e = .returned (.int .i64 r1) ∧ Kd.R (Kd.int .i64) 3 w' w0.heap.size (fun k_ => (P0_ k_ ∨ w.heap.size ≤ k_)) u9000_ r2 ∧ Below w0.heap.size w0 w' ∧ Kept w w' (fun k_ => P0_ k_) := by
 have HO0 := Aside0.mk (show Kd.R (Kd.int .i64) 3 w w0.heap.size (fun k_ => (P0_ k_ ∨ w.heap.size ≤ k_)) u9000_ l0 from Kd.R_mono ho0 (fun k_ hk => (.inl hk)))
 have HK := Aside0.mk (Kept.refl w (fun k_ => P0_ k_))
 have HW0 := Aside0.mk hB.size
 have HB := Aside0.mk hB
 clear hB
 have H : (laws_markIntS.l0 k l0 a1 0) = some (r1, r2) := h
 clear h
 have H' := Aside0.mk H
 clear H
 go_enter Tryz.func50, Tryz.ntmps50
 go_wp2
 go_loopg [1, 5] k (fun kq v1 v5 w' => ∃ (x0_1 : List Int) (x1_1 : Int) (x5_1 : Int), v1 = .int .i64 x1_1 ∧ v5 = .int .i64 x5_1 ∧ Aside0 (laws_markIntS.l0 kq x0_1 x1_1 x5_1 = some (r1, r2)) ∧ Aside0 (kq ≤ k) ∧ Aside0 (Kd.R (Kd.int .i64) 3 w' w0.heap.size (fun k_ => (P0_ k_ ∨ w.heap.size ≤ k_)) u9000_ x0_1) ∧ Aside0 (Kept w w' (fun k_ => P0_ k_)) ∧ Aside0 (Below w0.heap.size w0 w'))
 case atStart => exact ⟨(l0), (a1), (0), fS, fS, H', ⟨Nat.le_refl _⟩, ⟨rS HO0⟩, ⟨by repeat (first | (with_reducible first | exact HK.out | apply Kept.alloc | apply Kept.drewN | apply Kept.drew) | exact HK.out)⟩, ⟨bS⟩⟩
 case round =>
  clear H'
  try clear p2
  obtain ⟨x0_1, x1_1, x5_1, rfl, rfl, HA, HK1, HO_0, HK, HB⟩ := hrel
  cases gk with
  | zero => exact absurd HA.out (by simp [laws_markIntS.l0])
  | succ k1 =>
   have H := HA.out
   clear HA
   simp only [laws_markIntS.l0] at H
   rcases iD H with ⟨c3b0, H⟩ | ⟨c3b0, H⟩
   ·obtain ⟨c4b0, H⟩ := iT H
    obtain ⟨y191, hy191⟩ : ∃ y_ : List Int, y_ = (x0_1.set (x5_1 : Int).toNat x1_1) := ⟨_, rfl⟩
    replace H : (laws_markIntS.l0 k1 y191 (wrap64 (x1_1 + 1)) (wrap64 (x5_1 + 1))) = some (r1, r2) := by first | (rw [hy191]; with_reducible exact H) | (have H2_ := (Option.bind_some _ _).symm.trans H; rw [hy191]; with_reducible exact H2_) | (have H2_ := (Option.bind_some _ _).symm.trans H; with_reducible exact H2_) | with_reducible exact H | (rw [hy191]; exact H) | exact H
    have Ny191 := Aside0.mk hy191
    clear hy191
    have H' := Aside0.mk H
    clear H
    obtain ⟨Ao6, co6, eo6⟩ := Kd.R_slice HO_0.out
    subst eo6
    have p5 : 0 ≤ (x5_1 : Int) := dA
    have q5 : (x5_1 : Int) < ((x0_1.length : Int) : Int) := dA
    obtain ⟨go5, co5, eo5, gb5, gl5, cl5, HG5⟩ := Kd.R_form HO_0.out (by omega)
    (first | cases eo5 | (injection eo5 with ea_ en_ ec_; (first | subst ea_ | (injection ea_ with ea_; subst ea_)); subst ec_; clear en_))
    have GB5 := Aside0.mk gb5
    have GG5 := Aside0.mk HG5
    clear gb5 gl5 HG5
    have HMgo5 := Aside0.mk (show (P0_ go5 ∨ w.heap.size ≤ go5) from (HO_0.out.1 _ rfl))
    obtain ⟨hx5_0, hf5_0⟩ := Kd.R_celln 0 HO_0.out (x5_1 : Int) p5 q5
    replace p5 := eq_true p5
    replace q5 := eq_true q5
    have HP7 := Kd.R_putg HO_0.out (x5_1 : Int) x1_1
    go_wp2_with (first | ((with_reducible refine gate_store (t := 3) (p := 15) rfl ?_); refine store_event (t := 3) (p := 15) (v := ?vo_w8) (w1 := (wr.setCell ⟨go5, (x5_1 : Int).toNat, none⟩ (.int .i64 x1_1))) ?hg ?ho ?hn ?hr ?_; (case ho => rfl); (case hg => rfl); (case hn => rfl); (case hr => first | (go_simp; done) | (go_simp; rfl)); intro w8 hw; have hg : wr.grownBy w8 (some go5) := (by rw [hw]; exact HP7.2); have hp_ : Kd.R (Kd.int .i64) 3 w8 w0.heap.size (fun k_ => (P0_ k_ ∨ w.heap.size ≤ k_)) (.slice (some ⟨go5, 0, none⟩) x0_1.length co6) y191 := (by rw [hw, Ny191.out]; exact HP7.1); clear HP7; replace HB := Aside0.mk ((by rw [hw]; exact below_set (HB.out) GB5.out : Below w0.heap.size w0 w8)); replace HK := Aside0.mk (Kept.of_grown (S := (fun k_ => P0_ k_)) hg (by repeat (first | (with_reducible first | exact HK.out | apply Kept.alloc | apply Kept.drewN | apply Kept.drew) | exact HK.out)) (fun k_ e_ => (HO_0.out.1 k_ e_))); replace HO_0 := Aside0.mk (hp_); clear hg hw hp_))
    go_roundg k1
    case measure => have := HK1.out; omega
    case rel => exact ⟨(y191), (wrap64 (x1_1 + 1)), (wrap64 (x5_1 + 1)), fS, fS, H', ⟨by have := HK1.out; omega⟩, ⟨rS HO_0⟩, ⟨by repeat (first | (with_reducible first | exact HK.out | apply Kept.alloc | apply Kept.drewN | apply Kept.drew) | exact HK.out)⟩, ⟨bS⟩⟩
   ·obtain ⟨rfl, rfl⟩ := sI2 H
    obtain ⟨Ao9, co9, eo9⟩ := Kd.R_slice HO_0.out
    subst eo9
    go_wp2
    go_ret
    exact ⟨eS, rS HO_0, bS, by repeat (first | (with_reducible first | exact HK.out | apply Kept.alloc | apply Kept.drewN | apply Kept.drew) | exact HK.out)⟩

/-! ### laws_markIntSS: function 15 -/
def laws_markIntSS.l0 : Nat → List (List Int) → Int → Int → Option (Int × (List (List Int)))
 | 0, _, _, _ => none
 | k + 1, x0, x1, x5 => if x5 < (x0.length : Int) then (if 0 ≤ x5 then ((laws_markIntS.f k (x0.getD x5.toNat []) x1).bind fun bt => (laws_markIntSS.l0 k (x0.set (x5 : Int).toNat bt.2) bt.1 (wrap64 (x5 + 1)))) else (none)) else (some (x1, x0))
def laws_markIntSS.f (k : Nat) (l0 : List (List Int)) (a1 : Int) : Option (Int × (List (List Int))) := laws_markIntSS.l0 k l0 a1 0
theorem laws_markIntSS.calls (k : Nat) (P0_ : Nat → Prop) (u9000_ : Value) (l0 : List (List Int)) (a1 : Int) (r1 : Int) (r2 : List (List Int)) (w0 w : World) (hB : Below w0.heap.size w0 w) (ho0 : Kd.S (Kd.slice 3 (Kd.int .i64)) 54 w w0.heap.size P0_ u9000_ l0) (h : laws_markIntSS.f k l0 a1 = some (r1, r2)) :
  Calls Tryz.prog 15 #[u9000_, .int .i64 a1] w fun e w' => e = .returned (.int .i64 r1) ∧ Kd.S (Kd.slice 3 (Kd.int .i64)) 54 w' w0.heap.size (fun k_ => (P0_ k_ ∨ w.heap.size ≤ k_)) u9000_ r2 ∧ Below w0.heap.size w0 w' ∧ Kept w w' (fun k_ => P0_ k_) := by
 have HO0 := Aside0.mk (show Kd.S (Kd.slice 3 (Kd.int .i64)) 54 w w0.heap.size (fun k_ => (P0_ k_ ∨ w.heap.size ≤ k_)) u9000_ l0 from Kd.S_mono ho0 (fun k_ hk => (.inl hk)))
 have HK := Aside0.mk (Kept.refl w (fun k_ => P0_ k_))
 have HB := Aside0.mk hB
 clear hB ho0
 have H' := Aside0.mk (show laws_markIntSS.l0 k l0 a1 0 = some (r1, r2) from h)
 clear h
 go_enter Tryz.func15, Tryz.ntmps15
 go_wp2
 go_loopg [1, 5] k (fun kq v1 v5 w' => ∃ (x0_1 : List (List Int)) (x1_1 : Int) (x5_1 : Int), v1 = .int .i64 x1_1 ∧ v5 = .int .i64 x5_1 ∧ Aside0 (laws_markIntSS.l0 kq x0_1 x1_1 x5_1 = some (r1, r2)) ∧ Aside0 (kq ≤ k) ∧ Aside0 (Kd.S (Kd.slice 3 (Kd.int .i64)) 54 w' w0.heap.size (fun k_ => (P0_ k_ ∨ w.heap.size ≤ k_)) u9000_ x0_1) ∧ Aside0 (Kept w w' (fun k_ => P0_ k_)) ∧ Aside0 (Below w0.heap.size w0 w'))
 case atStart => exact ⟨(l0), (a1), (0), rfl, rfl, H', ⟨Nat.le_refl _⟩, HO0, HK, HB⟩
 case round =>
  clear H' HO0
  obtain ⟨x0_1, x1_1, x5_1, rfl, rfl, HA, HK1, HO_0, HK, HB⟩ := hrel
  cases gk with
  | zero => exact absurd HA.out (by simp [laws_markIntSS.l0])
  | succ k1 =>
   have H := HA.out
   clear HA
   simp only [laws_markIntSS.l0] at H
   by_cases c3 : x5_1 < (x0_1.length : Int)
   ·rw [if_pos c3] at H
    have c3b0 : decide (x5_1 < (x0_1.length : Int)) = true := decide_eq_true c3
    by_cases c4 : 0 ≤ x5_1
    ·rw [if_pos c4] at H
     replace H := bN H
     obtain ⟨⟨t1, t2⟩, A5, H⟩ := H
     have H' := Aside0.mk H
     clear H
     obtain ⟨go5, co5, rfl, gb5, gl5, _⟩ := Kd.S_form HO_0.out (by omega)
     obtain ⟨oki, c, _, hM, hcc, _, hoki, hH⟩ := Kd.S_elem HO_0.out [] x5_1 c4 c3
     obtain ⟨vi, rfl, hR⟩ := hM
     obtain ⟨Ai, ci, rfl⟩ := Kd.R_slice hR
     have hx5 : wr.cell? ⟨go5, (x5_1 : Int).toNat, none⟩ = some (.slice Ai (x0_1.getD x5_1.toNat []).length ci) := by
      have h_ := hcc 0 _ rfl
      simpa only [show ((Kd.slice 3 (Kd.int .i64))).sz = 1 from rfl, Nat.mul_one, Nat.add_zero] using h_
     generalize hxi : x0_1.getD x5_1.toNat [] = xi at A5 hR hx5 hH
     clear hxi
     have HH := Aside0.mk hH
     have HR := Aside0.mk hR
     have HI := Aside0.mk hoki
     have HN := Aside0.mk (fun k_ (h_ : wr.heap.size ≤ k_) => (Or.inr (Nat.le_trans HK.out.1 h_) : P0_ k_ ∨ w.heap.size ≤ k_))
     clear hcc hoki hH hR HO_0 gb5 gl5
     have p5 := eq_true c4
     have q5 := eq_true c3
     clear c3 c4
     go_wp2_with (first | ((with_reducible refine gC 50 ?_); refine cL (some 17) Tryz.func50 #[.slice Ai xi.length ci, .int .i64 x1_1] ?_; (with_reducible refine (laws_markIntS.calls k1 oki _ xi x1_1 t1 t2 w0 _ HB.out HR.out A5.out).mono ?_); rintro e w8 ⟨rfl, hi, hb, hkp⟩; refine ⟨_, rfl, ?_⟩; have HO_0 := Aside0.mk (Kd.H_back (H_lent HH.out hkp HN.out) (Kd.M_row hi) (fun _ hk => hk)); replace HK := Aside0.mk (Kept.then_ HK.out hkp (fun k_ hk => (HI.out k_ hk).1)); replace HB := Aside0.mk hb; clear hi hb hkp hx5 HH HR HI HN))
     go_roundg k1
     case measure => have := HK1.out; omega
     case rel => exact ⟨x0_1.set (x5_1 : Int).toNat t2, t1, wrap64 (x5_1 + 1), rfl, fS, H', ⟨by have := HK1.out; omega⟩, HO_0, HK, HB⟩
    ·rw [if_neg c4] at H
     exact absurd H (by simp)
   ·rw [if_neg c3] at H
    have c3b0 : decide (x5_1 < (x0_1.length : Int)) = false := decide_eq_false c3
    clear c3
    obtain ⟨rfl, rfl⟩ := sI2 H
    obtain ⟨Ao9, co9, eo9⟩ := Kd.S_slice HO_0.out
    subst eo9
    go_wp2
    go_ret
    exact ⟨eS, HO_0.out, HB.out, HK.out⟩


/-! ### laws_markPointS: function 70 -/
def laws_markPointS.l0 : Nat → List (S151) → Int → Int → Option (Int × (List (S151)))
 | 0, _, _, _ => none
 | k + 1, x0, x1, x5 => if x5 < (x0.length : Int) then (if 0 ≤ x5 then ((some (x0.set (x5 : Int).toNat (⟨x1, (rd_T151 x0 x5).f1⟩ : S151) : List (S151))).bind fun y192 => (laws_markPointS.l0 k (y192.set (x5 : Int).toNat (⟨(rd_T151 y192 x5).f0, wrap64 (x1 + 1)⟩ : S151)) (wrap64 ((wrap64 (x1 + 1)) + 1)) (wrap64 (x5 + 1)))) else (none)) else (some (x1, x0))
def laws_markPointS.f (k : Nat) (l0 : List (S151)) (a1 : Int) : Option (Int × (List (S151))) := laws_markPointS.l0 k l0 a1 0
theorem laws_markPointS.calls (k : Nat) (P0_ : Nat → Prop) (u9000_ : Value) (l0 : List (S151)) (a1 : Int) (r1 : Int) (r2 : List (S151)) (w0 w : World) (hB : Below w0.heap.size w0 w) (ho0 : Kd.R k151 151 w w0.heap.size P0_ u9000_ l0) (h : laws_markPointS.f k l0 a1 = some (r1, r2)) :
  Calls Tryz.prog 70 #[u9000_, .int .i64 a1] w fun e w' => e = .returned (.int .i64 r1) ∧ Kd.R k151 151 w' w0.heap.size (fun k_ => (P0_ k_ ∨ w.heap.size ≤ k_)) u9000_ r2 ∧ Below w0.heap.size w0 w' ∧ Kept w w' (fun k_ => P0_ k_) := by
 have HO0 := Aside0.mk (show Kd.R k151 151 w w0.heap.size (fun k_ => (P0_ k_ ∨ w.heap.size ≤ k_)) u9000_ l0 from Kd.R_mono ho0 (fun k_ hk => (.inl hk)))
 have HK := Aside0.mk (Kept.refl w (fun k_ => P0_ k_))
 have HW0 := Aside0.mk hB.size
 have HB := Aside0.mk hB
 clear hB
 have H : (laws_markPointS.l0 k l0 a1 0) = some (r1, r2) := h
 clear h
 have H' := Aside0.mk H
 clear H
 go_enter Tryz.func70, Tryz.ntmps70
 go_wp2
 go_loopg [1, 5] k (fun kq v1 v5 w' => ∃ (x0_1 : List (S151)) (x1_1 : Int) (x5_1 : Int), v1 = .int .i64 x1_1 ∧ v5 = .int .i64 x5_1 ∧ Aside0 (laws_markPointS.l0 kq x0_1 x1_1 x5_1 = some (r1, r2)) ∧ Aside0 (kq ≤ k) ∧ Aside0 (Kd.R k151 151 w' w0.heap.size (fun k_ => (P0_ k_ ∨ w.heap.size ≤ k_)) u9000_ x0_1) ∧ Aside0 (Kept w w' (fun k_ => P0_ k_)) ∧ Aside0 (Below w0.heap.size w0 w'))
 case atStart => exact ⟨(l0), (a1), (0), fS, fS, H', ⟨Nat.le_refl _⟩, ⟨rS HO0⟩, ⟨by repeat (first | (with_reducible first | exact HK.out | apply Kept.alloc | apply Kept.drewN | apply Kept.drew) | exact HK.out)⟩, ⟨bS⟩⟩
 case round =>
  clear H'
  try clear p2
  obtain ⟨x0_1, x1_1, x5_1, rfl, rfl, HA, HK1, HO_0, HK, HB⟩ := hrel
  cases gk with
  | zero => exact absurd HA.out (by simp [laws_markPointS.l0])
  | succ k1 =>
   have H := HA.out
   clear HA
   simp only [laws_markPointS.l0] at H
   rcases iD H with ⟨c3b0, H⟩ | ⟨c3b0, H⟩
   ·obtain ⟨c4b0, H⟩ := iT H
    obtain ⟨y192, hy192⟩ : ∃ y_ : List (S151), y_ = (x0_1.set (x5_1 : Int).toNat (⟨x1_1, (rd_T151 x0_1 x5_1).f1⟩ : S151)) := ⟨_, rfl⟩
    replace H : (laws_markPointS.l0 k1 (y192.set (x5_1 : Int).toNat (⟨(rd_T151 y192 x5_1).f0, wrap64 (x1_1 + 1)⟩ : S151)) (wrap64 ((wrap64 (x1_1 + 1)) + 1)) (wrap64 (x5_1 + 1))) = some (r1, r2) := by first | (rw [hy192]; with_reducible exact H) | (have H2_ := (Option.bind_some _ _).symm.trans H; rw [hy192]; with_reducible exact H2_) | (have H2_ := (Option.bind_some _ _).symm.trans H; with_reducible exact H2_) | with_reducible exact H | (rw [hy192]; exact H) | exact H
    have Ny192 := Aside0.mk hy192
    clear hy192
    obtain ⟨y193, hy193⟩ : ∃ y_ : List (S151), y_ = (y192.set (x5_1 : Int).toNat (⟨(rd_T151 y192 x5_1).f0, wrap64 (x1_1 + 1)⟩ : S151)) := ⟨_, rfl⟩
    replace H : (laws_markPointS.l0 k1 y193 (wrap64 ((wrap64 (x1_1 + 1)) + 1)) (wrap64 (x5_1 + 1))) = some (r1, r2) := by first | (rw [hy193]; with_reducible exact H) | (have H2_ := (Option.bind_some _ _).symm.trans H; rw [hy193]; with_reducible exact H2_) | (have H2_ := (Option.bind_some _ _).symm.trans H; with_reducible exact H2_) | with_reducible exact H | (rw [hy193]; exact H) | exact H
    have Ny193 := Aside0.mk hy193
    clear hy193
    have H' := Aside0.mk H
    clear H
    obtain ⟨Ao7, co7, eo7⟩ := Kd.R_slice HO_0.out
    subst eo7
    have p5 : 0 ≤ (x5_1 : Int) := dA
    have q5 : (x5_1 : Int) < ((x0_1.length : Int) : Int) := dA
    obtain ⟨go5, co5, eo5, gb5, gl5, cl5, HG5⟩ := Kd.R_form HO_0.out (by omega)
    (first | cases eo5 | (injection eo5 with ea_ en_ ec_; (first | subst ea_ | (injection ea_ with ea_; subst ea_)); subst ec_; clear en_))
    have GB5 := Aside0.mk gb5
    have GG5 := Aside0.mk HG5
    clear gb5 gl5 HG5
    have HMgo5 := Aside0.mk (show (P0_ go5 ∨ w.heap.size ≤ go5) from (HO_0.out.1 _ rfl))
    obtain ⟨ce5, hcl5, hM5, hcc5, hfr5⟩ := Kd.R_elem HO_0.out z151 (x5_1 : Int) p5 q5
    obtain rfl := k151_openM hM5
    have hx5_0 : wr.cell? ⟨go5, (x5_1 : Int).toNat * 2, none⟩ = some (.int .i64 ((rd_T151 x0_1 x5_1).f0)) := hcc5 0 _ rfl
    have hx5_1 : wr.cell? ⟨go5, (x5_1 : Int).toNat * 2 + 1, none⟩ = some (.int .i64 ((rd_T151 x0_1 x5_1).f1)) := hcc5 1 _ rfl
    have hf5_0 : wr.frozen? ⟨go5, (x5_1 : Int).toNat * 2, none⟩ = false := hfr5 0
    have hf5_1 : wr.frozen? ⟨go5, (x5_1 : Int).toNat * 2 + 1, none⟩ = false := hfr5 1
    (try clear hM5); clear hcl5 hcc5 hfr5
    replace p5 := eq_true p5
    replace q5 := eq_true q5
    have HX8 := Aside0.mk (show Kd.R k151 151 wr w0.heap.size (fun k_ => (P0_ k_ ∨ w.heap.size ≤ k_)) (.slice (some ⟨go5, 0, none⟩) x0_1.length co7) x0_1 from (rS HO_0))
    obtain ⟨ce8, hcl8, hM8, hcc8, hfr8⟩ := Kd.R_elem HX8.out z151 (x5_1 : Int) (dA) (by have h_ : (x5_1 : Int) < ((x0_1.length : Int) : Int) := dA; first | exact h_ | (have e_ := (Kd.R_reads' HO_0.out).1; omega) | simpa using h_)
    obtain rfl := k151_openM hM8
    have HP8 := Kd.R_seg HX8.out (x5_1 : Int) (dA) (by have h_ : (x5_1 : Int) < ((x0_1.length : Int) : Int) := dA; first | exact h_ | (have e_ := (Kd.R_reads' HO_0.out).1; omega) | simpa using h_) (seg := [.int .i64 x1_1]) (j := 0) hcl8 hcc8 (show 1 ≤ 2 from by decide) (x' := (⟨x1_1, (rd_T151 x0_1 x5_1).f1⟩ : S151)) (k151_mkM _ _ _ (⟨x1_1, (rd_T151 x0_1 x5_1).f1⟩ : S151) ) (fun _ hk => hk)
    have hx8_0 := hcc8 0 _ rfl
    (try simp only [show (k151).sz = 2 from rfl, Nat.mul_one, Nat.add_zero] at hx8_0)
    have hf8_0 := hfr8 0
    (try simp only [show (k151).sz = 2 from rfl, Nat.mul_one, Nat.add_zero] at hf8_0)
    (try clear hM8); clear hcl8 hcc8 hfr8
    go_wp2_with (first | ((with_reducible refine gate_store (t := 3) (p := 16) rfl ?_); refine store_event (t := 3) (p := 16) (v := ?vo_w9) (w1 := (wr.setCell ⟨go5, (x5_1 : Int).toNat * 2, none⟩ (.int .i64 x1_1))) ?hg ?ho ?hn ?hr ?_; (case ho => rfl); (case hg => rfl); (case hn => rfl); (case hr => first | (go_simp; done) | (go_simp; rfl)); intro w9 hw; have hg : wr.grownBy w9 (some go5) := (by rw [hw]; exact HP8.2); have hp_ : Kd.R k151 151 w9 w0.heap.size (fun k_ => (P0_ k_ ∨ w.heap.size ≤ k_)) (.slice (some ⟨go5, 0, none⟩) x0_1.length co7) y192 := (by rw [hw, Ny192.out]; exact HP8.1); clear HP8; replace HB := Aside0.mk ((by rw [hw]; exact below_set (HB.out) GB5.out : Below w0.heap.size w0 w9)); replace HK := Aside0.mk (Kept.of_grown (S := (fun k_ => P0_ k_)) hg (by repeat (first | (with_reducible first | exact HK.out | apply Kept.alloc | apply Kept.drewN | apply Kept.drew) | exact HK.out)) (fun k_ e_ => (HO_0.out.1 k_ e_))); replace HO_0 := Aside0.mk (hp_); clear hg hw hp_; have p6 : 0 ≤ (x5_1 : Int) := dA; have q6 : (x5_1 : Int) < ((x0_1.length : Int) : Int) := dA; obtain ⟨ce6, hcl6, hM6, hcc6, hfr6⟩ := Kd.R_elem HO_0.out z151 (x5_1 : Int) p6 q6; obtain rfl := k151_openM hM6; have hx6_0 : w9.cell? ⟨go5, (x5_1 : Int).toNat * 2, none⟩ = some (.int .i64 ((rd_T151 y192 x5_1).f0)) := hcc6 0 _ rfl; have hx6_1 : w9.cell? ⟨go5, (x5_1 : Int).toNat * 2 + 1, none⟩ = some (.int .i64 ((rd_T151 y192 x5_1).f1)) := hcc6 1 _ rfl; have hf6_0 : w9.frozen? ⟨go5, (x5_1 : Int).toNat * 2, none⟩ = false := hfr6 0; have hf6_1 : w9.frozen? ⟨go5, (x5_1 : Int).toNat * 2 + 1, none⟩ = false := hfr6 1; (try clear hM6); clear hcl6 hcc6 hfr6; replace p6 := eq_true p6; replace q6 := eq_true q6; have HX10 := Aside0.mk (show Kd.R k151 151 w9 w0.heap.size (fun k_ => (P0_ k_ ∨ w.heap.size ≤ k_)) (.slice (some ⟨go5, 0, none⟩) x0_1.length co7) y192 from (rS HO_0)); obtain ⟨ce10, hcl10, hM10, hcc10, hfr10⟩ := Kd.R_elem HX10.out z151 (x5_1 : Int) (dA) (by have h_ : (x5_1 : Int) < ((x0_1.length : Int) : Int) := dA; first | exact h_ | (have e_ := (Kd.R_reads' HO_0.out).1; omega) | simpa using h_); obtain rfl := k151_openM hM10; have HP10 := Kd.R_seg HX10.out (x5_1 : Int) (dA) (by have h_ : (x5_1 : Int) < ((x0_1.length : Int) : Int) := dA; first | exact h_ | (have e_ := (Kd.R_reads' HO_0.out).1; omega) | simpa using h_) (seg := [.int .i64 (wrap64 (x1_1 + 1))]) (j := 1) hcl10 hcc10 (show 2 ≤ 2 from by decide) (x' := (⟨(rd_T151 y192 x5_1).f0, wrap64 (x1_1 + 1)⟩ : S151)) (k151_mkM _ _ _ (⟨(rd_T151 y192 x5_1).f0, wrap64 (x1_1 + 1)⟩ : S151) ) (fun _ hk => hk); have hx10_1 := hcc10 1 _ rfl; (try simp only [show (k151).sz = 2 from rfl, Nat.mul_one, Nat.add_zero] at hx10_1); have hf10_1 := hfr10 1; (try simp only [show (k151).sz = 2 from rfl, Nat.mul_one, Nat.add_zero] at hf10_1); (try clear hM10); clear hcl10 hcc10 hfr10) | ((with_reducible refine gate_store (t := 3) (p := 23) rfl ?_); refine store_event (t := 3) (p := 23) (v := ?vo_w11) (w1 := (w9.setCell ⟨go5, (x5_1 : Int).toNat * 2 + 1, none⟩ (.int .i64 (wrap64 (x1_1 + 1))))) ?hg ?ho ?hn ?hr ?_; (case ho => rfl); (case hg => rfl); (case hn => rfl); (case hr => first | (go_simp; done) | (go_simp; rfl)); intro w11 hw; have hg : w9.grownBy w11 (some go5) := (by rw [hw]; exact HP10.2); have hp_ : Kd.R k151 151 w11 w0.heap.size (fun k_ => (P0_ k_ ∨ w.heap.size ≤ k_)) (.slice (some ⟨go5, 0, none⟩) x0_1.length co7) y193 := (by rw [hw, Ny193.out]; exact HP10.1); clear HP10; replace HB := Aside0.mk ((by rw [hw]; exact below_set (HB.out) GB5.out : Below w0.heap.size w0 w11)); replace HK := Aside0.mk (Kept.of_grown (S := (fun k_ => P0_ k_)) hg (by repeat (first | (with_reducible first | exact HK.out | apply Kept.alloc | apply Kept.drewN | apply Kept.drew) | exact HK.out)) (fun k_ e_ => (HO_0.out.1 k_ e_))); replace HO_0 := Aside0.mk (hp_); clear hg hw hp_))
    go_roundg k1
    case measure => have := HK1.out; omega
    case rel => exact ⟨(y193), (wrap64 ((wrap64 (x1_1 + 1)) + 1)), (wrap64 (x5_1 + 1)), fS, fS, H', ⟨by have := HK1.out; omega⟩, ⟨rS HO_0⟩, ⟨by repeat (first | (with_reducible first | exact HK.out | apply Kept.alloc | apply Kept.drewN | apply Kept.drew) | exact HK.out)⟩, ⟨bS⟩⟩
   ·obtain ⟨rfl, rfl⟩ := sI2 H
    obtain ⟨Ao12, co12, eo12⟩ := Kd.R_slice HO_0.out
    subst eo12
    go_wp2
    go_ret
    exact ⟨eS, rS HO_0, bS, by repeat (first | (with_reducible first | exact HK.out | apply Kept.alloc | apply Kept.drewN | apply Kept.drew) | exact HK.out)⟩

/-! ### laws_markObjectS: function 49 -/
def laws_markObjectS.l0 : Nat → List S49 → Int → Int → Option (Int × (List S49))
 | 0, _, _, _ => none
 | k + 1, x0, x1, x5 => if x5 < (x0.length : Int) then (if 0 ≤ x5 then ((laws_markPointS.f k (x0.getD x5.toNat z49).f0 (x1)).bind fun bt => (laws_markObjectS.l0 k (x0.set (x5 : Int).toNat (⟨bt.2, bt.1, (⟨wrap64 (bt.1 + 1), wrap64 ((wrap64 (bt.1 + 1)) + 1), wrap64 ((wrap64 ((wrap64 (bt.1 + 1)) + 1)) + 1), wrap64 ((wrap64 ((wrap64 ((wrap64 (bt.1 + 1)) + 1)) + 1)) + 1)⟩ : S47)⟩ : S49)) (wrap64 ((wrap64 ((wrap64 ((wrap64 ((wrap64 (bt.1 + 1)) + 1)) + 1)) + 1)) + 1)) (wrap64 (x5 + 1)))) else (none)) else (some (x1, x0))
def laws_markObjectS.f (k : Nat) (l0 : List S49) (a1 : Int) : Option (Int × (List S49)) := laws_markObjectS.l0 k l0 a1 0
theorem laws_markObjectS.calls (k : Nat) (P0_ : Nat → Prop) (u9000_ : Value) (l0 : List S49) (a1 : Int) (r1 : Int) (r2 : List S49) (w0 w : World) (hB : Below w0.heap.size w0 w) (ho0 : Kd.S k49 49 w w0.heap.size P0_ u9000_ l0) (h : laws_markObjectS.f k l0 a1 = some (r1, r2)) :
  Calls Tryz.prog 49 #[u9000_, .int .i64 a1] w fun e w' => e = .returned (.int .i64 r1) ∧ Kd.S k49 49 w' w0.heap.size (fun k_ => (P0_ k_ ∨ w.heap.size ≤ k_)) u9000_ r2 ∧ Below w0.heap.size w0 w' ∧ Kept w w' (fun k_ => P0_ k_) := by
 have HO0 := Aside0.mk (show Kd.S k49 49 w w0.heap.size (fun k_ => (P0_ k_ ∨ w.heap.size ≤ k_)) u9000_ l0 from Kd.S_mono ho0 (fun k_ hk => (.inl hk)))
 have HK := Aside0.mk (Kept.refl w (fun k_ => P0_ k_))
 have HB := Aside0.mk hB
 clear hB ho0
 have H' := Aside0.mk (show laws_markObjectS.l0 k l0 a1 0 = some (r1, r2) from h)
 clear h
 have hu49 := Tryz.underlying49
 have hu47 := Tryz.underlying47
 go_enter Tryz.func49, Tryz.ntmps49
 go_wp2
 go_loopg [1, 5] k (fun kq v1 v5 w' => ∃ (x0_1 : List S49) (x1_1 : Int) (x5_1 : Int), v1 = .int .i64 x1_1 ∧ v5 = .int .i64 x5_1 ∧ Aside0 (laws_markObjectS.l0 kq x0_1 x1_1 x5_1 = some (r1, r2)) ∧ Aside0 (kq ≤ k) ∧ Aside0 (Kd.S k49 49 w' w0.heap.size (fun k_ => (P0_ k_ ∨ w.heap.size ≤ k_)) u9000_ x0_1) ∧ Aside0 (Kept w w' (fun k_ => P0_ k_)) ∧ Aside0 (Below w0.heap.size w0 w'))
 case atStart => exact ⟨(l0), (a1), (0), rfl, rfl, H', ⟨Nat.le_refl _⟩, HO0, HK, HB⟩
 case round =>
  clear H' HO0
  obtain ⟨x0_1, x1_1, x5_1, rfl, rfl, HA, HK1, HO_0, HK, HB⟩ := hrel
  cases gk with
  | zero => exact absurd HA.out (by simp [laws_markObjectS.l0])
  | succ k1 =>
   have H := HA.out
   clear HA
   simp only [laws_markObjectS.l0] at H
   by_cases c3 : x5_1 < (x0_1.length : Int)
   ·rw [if_pos c3] at H
    have c3b0 : decide (x5_1 < (x0_1.length : Int)) = true := decide_eq_true c3
    by_cases c4 : 0 ≤ x5_1
    ·rw [if_pos c4] at H
     replace H := bN H
     obtain ⟨⟨t1, t2⟩, A5, H⟩ := H
     have H' := Aside0.mk H
     clear H
     have HG := Aside0.mk (show ∀ k_, u9000_.ownBlock = some k_ → (P0_ k_ ∨ w.heap.size ≤ k_) from (Kd.S_R HO_0.out).1)
     obtain ⟨go5, co5, rfl, gb5, gl5, _⟩ := Kd.S_form HO_0.out (by omega)
     replace HG := Aside0.mk (HG.out go5 rfl)
     obtain ⟨oki, c, _, hM, _, _, hoki, hH⟩ := Kd.S_elem HO_0.out z49 x5_1 c4 c3
     obtain ⟨v0, rfl, hR⟩ := k49_openM hM
     obtain ⟨Ai, ci, rfl⟩ := Kd.R_slice hR
     clear hM
     generalize hxi : (x0_1.getD x5_1.toNat z49).f0 = xi at A5 hR hH
     clear hxi
     generalize (x0_1.getD x5_1.toNat z49).f1 = y1 at hH
     generalize (x0_1.getD x5_1.toNat z49).f2.f0 = y2 at hH
     generalize (x0_1.getD x5_1.toNat z49).f2.f1 = y3 at hH
     generalize (x0_1.getD x5_1.toNat z49).f2.f2 = y4 at hH
     generalize (x0_1.getD x5_1.toNat z49).f2.f3 = y5 at hH
     have HH : Aside0 (Kd.H k49 49 wr w0.heap.size (fun k_ => (P0_ k_ ∨ w.heap.size ≤ k_)) (.slice (some ⟨go5, 0, none⟩) x0_1.length co5) x0_1 x5_1 oki [.slice Ai xi.length ci, .int .i64 y1, .int .i64 y2, .int .i64 y3, .int .i64 y4, .int .i64 y5]) := ⟨hH⟩
     have HR := Aside0.mk hR
     have HI := Aside0.mk hoki
     have HF := Aside0.mk (fun k_ (h_ : oki k_) => (hoki k_ h_).2)
     have GB := Aside0.mk gb5
     have P5 := Aside0.mk c4
     have Q5 := Aside0.mk c3
     clear hoki hH hR HO_0 gb5 gl5
     have p5 := eq_true c4
     have q5 := eq_true c3
     clear c3 c4
     have hs : wr.cell? ⟨go5, (x5_1 : Int).toNat * 6, none⟩ = some (.slice Ai xi.length ci) := (H_cells HH.out P5.out Q5.out).1 0 _ rfl; have hf : wr.frozen? ⟨go5, (x5_1 : Int).toNat * 6, none⟩ = false := (H_cells HH.out P5.out Q5.out).2 0
     go_wp2_with (first | ((with_reducible refine gC 70 ?_); refine cL (some 18) Tryz.func70 #[.slice Ai xi.length ci, .int .i64 (x1_1)] ?_; (with_reducible refine (laws_markPointS.calls k1 oki _ xi (x1_1) t1 t2 w0 _ HB.out HR.out A5.out).mono ?_); rintro e wz0 ⟨rfl, hi, hb, hkp⟩; refine ⟨_, rfl, ?_⟩; (try clear hs hf); have HN := fun k_ (h_ : wr.heap.size ≤ k_) => (Or.inr (Nat.le_trans HK.out.1 h_) : P0_ k_ ∨ w.heap.size ≤ k_); have GL := H_lt HH.out P5.out Q5.out; replace HF : Aside0 (∀ k_, (oki k_ ∨ wr.heap.size ≤ k_) → k_ ≠ go5) := ⟨fun k_ h_ => h_.elim (HF.out k_) (fun h2 e_ => by omega)⟩; replace HH : Aside0 (Kd.H k49 49 wz0 w0.heap.size (fun k_ => (P0_ k_ ∨ w.heap.size ≤ k_)) (.slice (some ⟨go5, 0, none⟩) x0_1.length co5) x0_1 x5_1 (fun k_ => oki k_ ∨ wr.heap.size ≤ k_) [.slice Ai xi.length ci, .int .i64 y1, .int .i64 y2, .int .i64 y3, .int .i64 y4, .int .i64 y5]) := ⟨H_lent HH.out hkp HN⟩; replace HR := Aside0.mk hi; replace HK := Aside0.mk (Kept.then_ HK.out hkp (fun k_ hk => (HI.out k_ hk).1)); replace HB := Aside0.mk hb; clear hi hb hkp HN GL; have hs : wz0.cell? ⟨go5, (x5_1 : Int).toNat * 6 + 1, none⟩ = some (.int .i64 y1) := (H_cells HH.out P5.out Q5.out).1 1 _ rfl; have hf : wz0.frozen? ⟨go5, (x5_1 : Int).toNat * 6 + 1, none⟩ = false := (H_cells HH.out P5.out Q5.out).2 1) | ((with_reducible refine gate_store (t := 3) (p := 23) rfl ?_); refine store_event (t := 3) (p := 23) (v := ?vo_wz1) (w1 := (wz0.setCell ⟨go5, (x5_1 : Int).toNat * 6 + 1, none⟩ (.int .i64 (t1)))) ?hg ?ho ?hn ?hr ?_; (case ho => rfl); (case hg => rfl); (case hn => rfl); (case hr => first | (go_simp; done) | (go_simp; rfl)); intro wz1 hw; have h_ := H_put HH.out P5.out Q5.out 1 (by decide) rfl (.int .i64 (t1)) rfl; replace HH : Aside0 (Kd.H k49 49 wz1 w0.heap.size (fun k_ => (P0_ k_ ∨ w.heap.size ≤ k_)) (.slice (some ⟨go5, 0, none⟩) x0_1.length co5) x0_1 x5_1 (fun k_ => oki k_ ∨ wr.heap.size ≤ k_) [.slice Ai xi.length ci, .int .i64 (t1), .int .i64 y2, .int .i64 y3, .int .i64 y4, .int .i64 y5]) := ⟨by rw [hw]; exact h_.1⟩; replace HR : Aside0 (Kd.R k151 151 wz1 w0.heap.size (fun k_ => oki k_ ∨ wr.heap.size ≤ k_) (.slice Ai xi.length ci) t2) := ⟨by rw [hw]; exact Kd.R_far HR.out HF.out _⟩; replace HK : Aside0 (Kept w wz1 (fun k_ => P0_ k_)) := ⟨by rw [hw]; exact Kept.setCell HK.out HG.out _⟩; replace HB : Aside0 (Below w0.heap.size w0 wz1) := ⟨by rw [hw]; exact below_set HB.out GB.out⟩; clear h_ hw hs hf; have hs : wz1.cell? ⟨go5, (x5_1 : Int).toNat * 6 + 2, none⟩ = some (.int .i64 y2) := (H_cells HH.out P5.out Q5.out).1 2 _ rfl; have hf : wz1.frozen? ⟨go5, (x5_1 : Int).toNat * 6 + 2, none⟩ = false := (H_cells HH.out P5.out Q5.out).2 2) | ((with_reducible refine gate_store (t := 3) (p := 31) rfl ?_); refine store_event (t := 3) (p := 31) (v := ?vo_wz2) (w1 := (wz1.setCell ⟨go5, (x5_1 : Int).toNat * 6 + 2, none⟩ (.int .i64 (wrap64 (t1 + 1))))) ?hg ?ho ?hn ?hr ?_; (case ho => rfl); (case hg => rfl); (case hn => rfl); (case hr => first | (go_simp; done) | (go_simp; rfl)); intro wz2 hw; have h_ := H_put HH.out P5.out Q5.out 2 (by decide) rfl (.int .i64 (wrap64 (t1 + 1))) rfl; replace HH : Aside0 (Kd.H k49 49 wz2 w0.heap.size (fun k_ => (P0_ k_ ∨ w.heap.size ≤ k_)) (.slice (some ⟨go5, 0, none⟩) x0_1.length co5) x0_1 x5_1 (fun k_ => oki k_ ∨ wr.heap.size ≤ k_) [.slice Ai xi.length ci, .int .i64 (t1), .int .i64 (wrap64 (t1 + 1)), .int .i64 y3, .int .i64 y4, .int .i64 y5]) := ⟨by rw [hw]; exact h_.1⟩; replace HR : Aside0 (Kd.R k151 151 wz2 w0.heap.size (fun k_ => oki k_ ∨ wr.heap.size ≤ k_) (.slice Ai xi.length ci) t2) := ⟨by rw [hw]; exact Kd.R_far HR.out HF.out _⟩; replace HK : Aside0 (Kept w wz2 (fun k_ => P0_ k_)) := ⟨by rw [hw]; exact Kept.setCell HK.out HG.out _⟩; replace HB : Aside0 (Below w0.heap.size w0 wz2) := ⟨by rw [hw]; exact below_set HB.out GB.out⟩; clear h_ hw hs hf; have hs : wz2.cell? ⟨go5, (x5_1 : Int).toNat * 6 + 3, none⟩ = some (.int .i64 y3) := (H_cells HH.out P5.out Q5.out).1 3 _ rfl; have hf : wz2.frozen? ⟨go5, (x5_1 : Int).toNat * 6 + 3, none⟩ = false := (H_cells HH.out P5.out Q5.out).2 3) | ((with_reducible refine gate_store (t := 3) (p := 39) rfl ?_); refine store_event (t := 3) (p := 39) (v := ?vo_wz3) (w1 := (wz2.setCell ⟨go5, (x5_1 : Int).toNat * 6 + 3, none⟩ (.int .i64 (wrap64 ((wrap64 (t1 + 1)) + 1))))) ?hg ?ho ?hn ?hr ?_; (case ho => rfl); (case hg => rfl); (case hn => rfl); (case hr => first | (go_simp; done) | (go_simp; rfl)); intro wz3 hw; have h_ := H_put HH.out P5.out Q5.out 3 (by decide) rfl (.int .i64 (wrap64 ((wrap64 (t1 + 1)) + 1))) rfl; replace HH : Aside0 (Kd.H k49 49 wz3 w0.heap.size (fun k_ => (P0_ k_ ∨ w.heap.size ≤ k_)) (.slice (some ⟨go5, 0, none⟩) x0_1.length co5) x0_1 x5_1 (fun k_ => oki k_ ∨ wr.heap.size ≤ k_) [.slice Ai xi.length ci, .int .i64 (t1), .int .i64 (wrap64 (t1 + 1)), .int .i64 (wrap64 ((wrap64 (t1 + 1)) + 1)), .int .i64 y4, .int .i64 y5]) := ⟨by rw [hw]; exact h_.1⟩; replace HR : Aside0 (Kd.R k151 151 wz3 w0.heap.size (fun k_ => oki k_ ∨ wr.heap.size ≤ k_) (.slice Ai xi.length ci) t2) := ⟨by rw [hw]; exact Kd.R_far HR.out HF.out _⟩; replace HK : Aside0 (Kept w wz3 (fun k_ => P0_ k_)) := ⟨by rw [hw]; exact Kept.setCell HK.out HG.out _⟩; replace HB : Aside0 (Below w0.heap.size w0 wz3) := ⟨by rw [hw]; exact below_set HB.out GB.out⟩; clear h_ hw hs hf; have hs : wz3.cell? ⟨go5, (x5_1 : Int).toNat * 6 + 4, none⟩ = some (.int .i64 y4) := (H_cells HH.out P5.out Q5.out).1 4 _ rfl; have hf : wz3.frozen? ⟨go5, (x5_1 : Int).toNat * 6 + 4, none⟩ = false := (H_cells HH.out P5.out Q5.out).2 4) | ((with_reducible refine gate_store (t := 3) (p := 47) rfl ?_); refine store_event (t := 3) (p := 47) (v := ?vo_wz4) (w1 := (wz3.setCell ⟨go5, (x5_1 : Int).toNat * 6 + 4, none⟩ (.int .i64 (wrap64 ((wrap64 ((wrap64 (t1 + 1)) + 1)) + 1))))) ?hg ?ho ?hn ?hr ?_; (case ho => rfl); (case hg => rfl); (case hn => rfl); (case hr => first | (go_simp; done) | (go_simp; rfl)); intro wz4 hw; have h_ := H_put HH.out P5.out Q5.out 4 (by decide) rfl (.int .i64 (wrap64 ((wrap64 ((wrap64 (t1 + 1)) + 1)) + 1))) rfl; replace HH : Aside0 (Kd.H k49 49 wz4 w0.heap.size (fun k_ => (P0_ k_ ∨ w.heap.size ≤ k_)) (.slice (some ⟨go5, 0, none⟩) x0_1.length co5) x0_1 x5_1 (fun k_ => oki k_ ∨ wr.heap.size ≤ k_) [.slice Ai xi.length ci, .int .i64 (t1), .int .i64 (wrap64 (t1 + 1)), .int .i64 (wrap64 ((wrap64 (t1 + 1)) + 1)), .int .i64 (wrap64 ((wrap64 ((wrap64 (t1 + 1)) + 1)) + 1)), .int .i64 y5]) := ⟨by rw [hw]; exact h_.1⟩; replace HR : Aside0 (Kd.R k151 151 wz4 w0.heap.size (fun k_ => oki k_ ∨ wr.heap.size ≤ k_) (.slice Ai xi.length ci) t2) := ⟨by rw [hw]; exact Kd.R_far HR.out HF.out _⟩; replace HK : Aside0 (Kept w wz4 (fun k_ => P0_ k_)) := ⟨by rw [hw]; exact Kept.setCell HK.out HG.out _⟩; replace HB : Aside0 (Below w0.heap.size w0 wz4) := ⟨by rw [hw]; exact below_set HB.out GB.out⟩; clear h_ hw hs hf; have hs : wz4.cell? ⟨go5, (x5_1 : Int).toNat * 6 + 5, none⟩ = some (.int .i64 y5) := (H_cells HH.out P5.out Q5.out).1 5 _ rfl; have hf : wz4.frozen? ⟨go5, (x5_1 : Int).toNat * 6 + 5, none⟩ = false := (H_cells HH.out P5.out Q5.out).2 5) | ((with_reducible refine gate_store (t := 3) (p := 55) rfl ?_); refine store_event (t := 3) (p := 55) (v := ?vo_wz5) (w1 := (wz4.setCell ⟨go5, (x5_1 : Int).toNat * 6 + 5, none⟩ (.int .i64 (wrap64 ((wrap64 ((wrap64 ((wrap64 (t1 + 1)) + 1)) + 1)) + 1))))) ?hg ?ho ?hn ?hr ?_; (case ho => rfl); (case hg => rfl); (case hn => rfl); (case hr => first | (go_simp; done) | (go_simp; rfl)); intro wz5 hw; have h_ := H_put HH.out P5.out Q5.out 5 (by decide) rfl (.int .i64 (wrap64 ((wrap64 ((wrap64 ((wrap64 (t1 + 1)) + 1)) + 1)) + 1))) rfl; replace HH : Aside0 (Kd.H k49 49 wz5 w0.heap.size (fun k_ => (P0_ k_ ∨ w.heap.size ≤ k_)) (.slice (some ⟨go5, 0, none⟩) x0_1.length co5) x0_1 x5_1 (fun k_ => oki k_ ∨ wr.heap.size ≤ k_) [.slice Ai xi.length ci, .int .i64 (t1), .int .i64 (wrap64 (t1 + 1)), .int .i64 (wrap64 ((wrap64 (t1 + 1)) + 1)), .int .i64 (wrap64 ((wrap64 ((wrap64 (t1 + 1)) + 1)) + 1)), .int .i64 (wrap64 ((wrap64 ((wrap64 ((wrap64 (t1 + 1)) + 1)) + 1)) + 1))]) := ⟨by rw [hw]; exact h_.1⟩; replace HR : Aside0 (Kd.R k151 151 wz5 w0.heap.size (fun k_ => oki k_ ∨ wr.heap.size ≤ k_) (.slice Ai xi.length ci) t2) := ⟨by rw [hw]; exact Kd.R_far HR.out HF.out _⟩; replace HK : Aside0 (Kept w wz5 (fun k_ => P0_ k_)) := ⟨by rw [hw]; exact Kept.setCell HK.out HG.out _⟩; replace HB : Aside0 (Below w0.heap.size w0 wz5) := ⟨by rw [hw]; exact below_set HB.out GB.out⟩; clear h_ hw hs hf))
     go_roundg k1
     case measure => have := HK1.out; omega
     case rel => exact ⟨x0_1.set (x5_1 : Int).toNat (⟨t2, t1, (⟨wrap64 (t1 + 1), wrap64 ((wrap64 (t1 + 1)) + 1), wrap64 ((wrap64 ((wrap64 (t1 + 1)) + 1)) + 1), wrap64 ((wrap64 ((wrap64 ((wrap64 (t1 + 1)) + 1)) + 1)) + 1)⟩ : S47)⟩ : S49), (wrap64 ((wrap64 ((wrap64 ((wrap64 ((wrap64 (t1 + 1)) + 1)) + 1)) + 1)) + 1)), wrap64 (x5_1 + 1), fS, fS, H', ⟨by have := HK1.out; omega⟩, ⟨Kd.H_back HH.out (k49_mkM _ _ _ ((⟨t2, t1, (⟨wrap64 (t1 + 1), wrap64 ((wrap64 (t1 + 1)) + 1), wrap64 ((wrap64 ((wrap64 (t1 + 1)) + 1)) + 1), wrap64 ((wrap64 ((wrap64 ((wrap64 (t1 + 1)) + 1)) + 1)) + 1)⟩ : S47)⟩ : S49) : S49) HR.out) (fun _ hk => hk)⟩, HK, HB⟩
    ·rw [if_neg c4] at H
     exact absurd H (by simp)
   ·rw [if_neg c3] at H
    have c3b0 : decide (x5_1 < (x0_1.length : Int)) = false := decide_eq_false c3
    clear c3
    obtain ⟨rfl, rfl⟩ := sI2 H
    obtain ⟨Ao9, co9, eo9⟩ := Kd.S_slice HO_0.out
    subst eo9
    go_wp2
    go_ret
    exact ⟨eS, HO_0.out, HB.out, HK.out⟩


/-! ### laws_markBand: function 14 -/
def laws_markBand.f (k : Nat) (a0_0 : Int) (a0_1 : Int) (l0_2 : List (List Int)) (l0_3 : List (S49)) (a1 : Int) : Option (Int × (List (List Int)) × (List (S49))) := (laws_markIntSS.f k l0_2 a1).bind fun bt1 => ((laws_markObjectS.f k l0_3 bt1.1).bind fun bt2 => (some (bt2.1, bt1.2, bt2.2)))
theorem laws_markBand.calls (k : Nat) (a0_0 : Int) (a0_1 : Int) (P2_ : Nat → Prop) (u2_ : Value) (l0_2 : List (List Int)) (P3_ : Nat → Prop) (u3_ : Value) (l0_3 : List (S49)) (a1 : Int) (r1 : Int) (r2 : List (List Int)) (r3 : List (S49)) (w0 w : World) (hB : Below w0.heap.size w0 w) (ho2 : Kd.S (Kd.slice 3 (Kd.int .i64)) 54 w w0.heap.size P2_ u2_ l0_2) (ho3 : Kd.S k49 49 w w0.heap.size P3_ u3_ l0_3) (h : laws_markBand.f k a0_0 a0_1 l0_2 l0_3 a1 = some (r1, r2, r3)) :
  Calls Tryz.prog 14 #[.agg #[.int .i64 a0_0, .int .i64 a0_1, u2_, u3_], .int .i64 a1] w fun e w' => e = .returned (.int .i64 r1) ∧ Kd.S (Kd.slice 3 (Kd.int .i64)) 54 w' w0.heap.size (fun k_ => (P2_ k_ ∨ w.heap.size ≤ k_)) u2_ r2 ∧ Kd.S k49 49 w' w0.heap.size (fun k_ => (P3_ k_ ∨ w.heap.size ≤ k_)) u3_ r3 ∧ Below w0.heap.size w0 w' ∧ Kept w w' (fun k_ => (P2_ k_ ∨ P3_ k_)) := by
 have hu_ := Tryz.underlying30
 have HO2 := Aside0.mk (show Kd.S (Kd.slice 3 (Kd.int .i64)) 54 w w0.heap.size (fun k_ => P2_ k_ ∧ k_ < w.heap.size ∧ ∃ q_, q_ ∈ 54 :: ((Kd.slice 3 (Kd.int .i64))).E ∧ ∃ c_, w.heap[k_]? = some (.cells c_ q_ (0, 0))) u2_ l0_2 from Kd.S_mono (Kd.S_bound ho2) (fun k_ hk => ⟨hk.1, hk.2.2.1, hk.2.2.2⟩))
 have HO3 := Aside0.mk (show Kd.S k49 49 w w0.heap.size (fun k_ => P3_ k_ ∧ k_ < w.heap.size ∧ ∃ q_, q_ ∈ 49 :: (k49).E ∧ ∃ c_, w.heap[k_]? = some (.cells c_ q_ (0, 0))) u3_ l0_3 from Kd.S_mono (Kd.S_bound ho3) (fun k_ hk => ⟨hk.1, hk.2.2.1, hk.2.2.2⟩))
 have HK := Aside0.mk (Kept.refl w (fun k_ => P2_ k_ ∨ P3_ k_))
 have HB := Aside0.mk hB
 clear hB ho2 ho3
 have H : ((laws_markIntSS.f k l0_2 a1).bind fun bt1 => ((laws_markObjectS.f k l0_3 bt1.1).bind fun bt2 => (some (bt2.1, bt1.2, bt2.2)))) = some (r1, r2, r3) := h
 clear h
 replace H := bN H
 obtain ⟨⟨t1, t2⟩, FA1, H⟩ := H
 replace H := bN H
 obtain ⟨⟨t3, t4⟩, FA2, H⟩ := H
 obtain ⟨rfl, rfl, rfl⟩ := sI3 H
 obtain ⟨A2, c2, e2⟩ := Kd.S_slice HO2.out
 subst e2
 obtain ⟨A3, c3, e3⟩ := Kd.S_slice HO3.out
 subst e3
 go_enter Tryz.func14, Tryz.ntmps14
 go_wp2_with (first | ((with_reducible refine gD 2 ?_); refine bxE #[.int .i64 a0_0, .int .i64 a0_1, .slice A2 l0_2.length c2, .slice A3 l0_3.length c3] 30 ?_; intro gb hg w5 BK hb; have GW := Aside0.mk ((by rw [hg]; exact (show Kept w _ (fun k_ => P2_ k_ ∨ P3_ k_) from by repeat (first | (with_reducible first | exact HK.out | apply Kept.alloc | apply Kept.drewN | apply Kept.drew) | exact HK.out)).1 : w.heap.size ≤ gb)); replace HO2 := sB HO2 hb; replace HO3 := sB HO3 hb; replace HK := Aside0.mk (Kept.below (S := (fun k_ => P2_ k_ ∨ P3_ k_)) (by repeat (first | (with_reducible first | exact HK.out | apply Kept.alloc | apply Kept.drewN | apply Kept.drew) | exact HK.out)) hb); replace HB := hB hb; clear hb hg; have hz_a := cz4 BK) | ((with_reducible refine gC 15 ?_); refine cL (some 8) Tryz.func15 #[.slice A2 l0_2.length c2, .int .i64 (a1)] ?_; (with_reducible refine (laws_markIntSS.calls k (fun k_ => P2_ k_ ∧ k_ < w.heap.size ∧ ∃ q_, q_ ∈ 54 :: ((Kd.slice 3 (Kd.int .i64))).E ∧ ∃ c_, w.heap[k_]? = some (.cells c_ q_ (0, 0))) (.slice A2 l0_2.length c2) l0_2 (a1) t1 t2 w0 _ ?side1 ?side2 FA1.out).mono ?_); (case side1 => repeat (first | (with_reducible first | exact HB.out | apply below_alloc | apply pw_below_drewN | apply below_drew1) | exact HB.out)); (case side2 => exact (sS HO2)); rintro e w8 ⟨rfl, hy, hb, hkp⟩; refine ⟨_, rfl, ?_⟩; have HN := Aside0.mk (show Kept w _ (fun k_ => P2_ k_ ∨ P3_ k_) from by repeat (first | (with_reducible first | exact HK.out | apply Kept.alloc | apply Kept.drewN | apply Kept.drew) | exact HK.out)).1; replace BK := Aside0.mk (blk_kept (g := gb) kS hkp (fun hs_ => Nat.not_lt.2 GW.out hs_.2.1)); replace HO3 := Aside0.mk (Kd.S_mono (ok' := (fun k_ => P3_ k_ ∧ k_ < w.heap.size ∧ ∃ q_, q_ ∈ 49 :: (k49).E ∧ ∃ c_, w.heap[k_]? = some (.cells c_ q_ (0, 0)))) (Kd.S_keptB (sS HO3) hkp (fun k_ h1_ h2_ => typed_two h1_.2.2 h2_.2.2 (by decide))) (fun _ h_ => h_.1)); replace HK := Aside0.mk (Kept.then_ (S := (fun k_ => P2_ k_ ∨ P3_ k_)) (by repeat (first | (with_reducible first | exact HK.out | apply Kept.alloc | apply Kept.drewN | apply Kept.drew) | exact HK.out)) hkp (fun k_ hs_ => Or.inl (Or.inl hs_.1))); replace HO2 := Aside0.mk (Kd.S_mono (ok' := fun k_ => (fun k_ => P2_ k_ ∧ k_ < w.heap.size ∧ ∃ q_, q_ ∈ 54 :: ((Kd.slice 3 (Kd.int .i64))).E ∧ ∃ c_, w.heap[k_]? = some (.cells c_ q_ (0, 0))) k_ ∨ w.heap.size ≤ k_) hy (fun k_ h_ => Or.elim h_ Or.inl (fun h2_ => Or.inr (Nat.le_trans HN.out h2_)))); replace HB := Aside0.mk hb; clear hb hkp hy HN; have hz_w8 := cz4 BK) | ((with_reducible refine gC 49 ?_); refine cL (some 12) Tryz.func49 #[.slice A3 l0_3.length c3, .int .i64 (t1)] ?_; (with_reducible refine (laws_markObjectS.calls k (fun k_ => P3_ k_ ∧ k_ < w.heap.size ∧ ∃ q_, q_ ∈ 49 :: (k49).E ∧ ∃ c_, w.heap[k_]? = some (.cells c_ q_ (0, 0))) (.slice A3 l0_3.length c3) l0_3 (t1) t3 t4 w0 _ ?side1 ?side2 FA2.out).mono ?_); (case side1 => repeat (first | (with_reducible first | exact HB.out | apply below_alloc | apply pw_below_drewN | apply below_drew1) | exact HB.out)); (case side2 => exact (sS HO3)); rintro e w9 ⟨rfl, hy, hb, hkp⟩; refine ⟨_, rfl, ?_⟩; have HN := Aside0.mk (show Kept w _ (fun k_ => P2_ k_ ∨ P3_ k_) from by repeat (first | (with_reducible first | exact HK.out | apply Kept.alloc | apply Kept.drewN | apply Kept.drew) | exact HK.out)).1; replace BK := Aside0.mk (blk_kept (g := gb) kS hkp (fun hs_ => Nat.not_lt.2 GW.out hs_.2.1)); replace HO2 := Aside0.mk (Kd.S_mono (ok' := fun k_ => (fun k_ => P2_ k_ ∧ k_ < w.heap.size ∧ ∃ q_, q_ ∈ 54 :: ((Kd.slice 3 (Kd.int .i64))).E ∧ ∃ c_, w.heap[k_]? = some (.cells c_ q_ (0, 0))) k_ ∨ w.heap.size ≤ k_) (Kd.S_keptB (sS HO2) hkp (fun k_ h1_ h2_ => Or.elim h1_ (fun h1_ => typed_two h1_.2.2 h2_.2.2 (by decide)) (fun h1_ => Nat.not_lt.2 h1_ h2_.2.1))) (fun _ h_ => h_.1)); replace HK := Aside0.mk (Kept.then_ (S := (fun k_ => P2_ k_ ∨ P3_ k_)) (by repeat (first | (with_reducible first | exact HK.out | apply Kept.alloc | apply Kept.drewN | apply Kept.drew) | exact HK.out)) hkp (fun k_ hs_ => Or.inl (Or.inr hs_.1))); replace HO3 := Aside0.mk (Kd.S_mono (ok' := fun k_ => (fun k_ => P3_ k_ ∧ k_ < w.heap.size ∧ ∃ q_, q_ ∈ 49 :: (k49).E ∧ ∃ c_, w.heap[k_]? = some (.cells c_ q_ (0, 0))) k_ ∨ w.heap.size ≤ k_) hy (fun k_ h_ => Or.elim h_ Or.inl (fun h2_ => Or.inr (Nat.le_trans HN.out h2_)))); replace HB := Aside0.mk hb; clear hb hkp hy HN; have hz_w9 := cz4 BK))
 go_ret
 exact ⟨eS, Kd.S_mono (ok := fun k_ => (fun k_ => P2_ k_ ∧ k_ < w.heap.size ∧ ∃ q_, q_ ∈ 54 :: ((Kd.slice 3 (Kd.int .i64))).E ∧ ∃ c_, w.heap[k_]? = some (.cells c_ q_ (0, 0))) k_ ∨ w.heap.size ≤ k_) (sS HO2) (fun k_ h_ => Or.elim h_ (fun h_ => Or.inl h_.1) Or.inr), Kd.S_mono (ok := fun k_ => (fun k_ => P3_ k_ ∧ k_ < w.heap.size ∧ ∃ q_, q_ ∈ 49 :: (k49).E ∧ ∃ c_, w.heap[k_]? = some (.cells c_ q_ (0, 0))) k_ ∨ w.heap.size ≤ k_) (sS HO3) (fun k_ h_ => Or.elim h_ (fun h_ => Or.inl h_.1) Or.inr), bS, by repeat (first | (with_reducible first | exact HK.out | apply Kept.alloc | apply Kept.drewN | apply Kept.drew) | exact HK.out)⟩


/-! ### spec_l01In: function 114 -/
def spec_l01In.f (a0 : Int) (a1 : Int) (a2 : Int) : Option (Bool) := if a0 ≥ a1 then (some (decide (a0 ≤ a2))) else (some false)
theorem spec_l01In.calls (a0 : Int) (a1 : Int) (a2 : Int) (r : Bool) (w : World) (h : spec_l01In.f a0 a1 a2 = some r) :
  Calls Tryz.prog 114 #[.int .i64 a0, .int .i64 a1, .int .i64 a2] w fun e w' => e = .returned (.bool r) ∧ Drawn0 w w' := by
 have H : (if a0 ≥ a1 then (some (decide (a0 ≤ a2))) else (some false)) = some r := h
 clear h
 by_cases c4 : a0 ≥ a1
 ·rw [if_pos c4] at H
  have c4b0 : decide (a1 ≤ a0) = true := decide_eq_true c4
  clear c4
  obtain rfl := Option.some.inj H
  go_enter Tryz.func114, Tryz.ntmps114
  go_wp2
  go_ret
  exact ⟨fS, dS⟩
 ·rw [if_neg c4] at H
  have c4b0 : decide (a1 ≤ a0) = false := decide_eq_false c4
  clear c4
  obtain rfl := Option.some.inj H
  go_enter Tryz.func114, Tryz.ntmps114
  go_wp2
  go_ret
  exact ⟨fS, dS⟩

/-! ### spec_l02In: function 185 -/
def spec_l02In.f (a0 : Int) : Option (Bool) := (spec_l01In.f a0 (-200) 200).bind fun t194 => (some t194)
theorem spec_l02In.calls (a0 : Int) (r : Bool) (w : World) (h : spec_l02In.f a0 = some r) :
  Calls Tryz.prog 185 #[.int .i64 a0] w fun e w' => e = .returned (.bool r) ∧ Drawn0 w w' := by
 have H : ((spec_l01In.f a0 (-200) 200).bind fun t194 => (some t194)) = some r := h
 clear h
 replace H := bN H
 obtain ⟨t194, A2, H⟩ := H
 obtain rfl := Option.some.inj H
 go_enter Tryz.func185, Tryz.ntmps185
 go_wp2_with (first | ((with_reducible refine gC 114 ?_); refine cL (some 4) Tryz.func114 #[.int .i64 a0, .int .i64 (-200), .int .i64 200] ?_; (with_reducible refine (spec_l01In.calls a0 (-200) 200 t194 _ A2.out).mono ?_); rintro e w' ⟨rfl, ⟨nd, rfl⟩⟩; refine ⟨_, rfl, ?_⟩))
 go_ret
 exact ⟨fS, dS⟩

end Go.Proofs.YtncfipboidmfbaaGreat.QFnExactMergeBand
