-- Made out of the translation by a program of this session (a changed copy of the print). Not trusted: Lean checks it.
import Derived.Test.YtigodjcnkgebaaaQFnExactBandTimex0
import Derived.Test.YtigodjcnkgebaaaQFnExactBandTimex1
import Derived.Test.YtigodjcnkgebaaaQFnExactBandTimex5
import Derived.Test.YtigodjcnkgebaaaQFnExactBandTimex6
import Derived.Test.YtigodjcnkgebaaaQFnExactBandTimex12
namespace Go.Proofs.Ytigodjcnkgebaaa.QFnExactBandTime
open Go.RowKit Go.Proofs.YtigodjcnkgebaaaW.PrintWords Go.Proofs.YtigodjcnkgebaaaW.PrintLast Go.Proofs.YtigodjcnkgebaaaW.PrintMore
attribute [local go_sem] max2_int min2_int max_two min_two max_three min_three max_four min_four   -- for this text's walks alone
set_option linter.unusedVariables false
set_option linter.unusedSimpArgs false
set_option maxHeartbeats 8000000
set_option maxRecDepth 100000

/-! ### laws_eqObjectS: function 43 -/
def laws_eqObjectS.l0 : Nat → List (S45) → List (S45) → Int → Option (Bool)
  | 0, _, _, _ => none
  | k + 1, x0, x1, x5 => if x5 < (x0.length : Int) then (if 0 ≤ x5 then (if x5 < (x1.length : Int) then ((laws_eqObject.f k ((rd_T45 x0 x5).f0) ((rd_T45 x0 x5).f1) ((rd_T45 x0 x5).f2.f0) ((rd_T45 x0 x5).f2.f1) ((rd_T45 x0 x5).f2.f2) ((rd_T45 x0 x5).f2.f3) ((rd_T45 x1 x5).f0) ((rd_T45 x1 x5).f1) ((rd_T45 x1 x5).f2.f0) ((rd_T45 x1 x5).f2.f1) ((rd_T45 x1 x5).f2.f2) ((rd_T45 x1 x5).f2.f3)).bind fun t401 => (if t401 = true then (laws_eqObjectS.l0 k x0 x1 (wrap64 (x5 + 1))) else (some false))) else (none)) else (none)) else (some true)
def laws_eqObjectS.f (k : Nat) (l0 : List (S45)) (l1 : List (S45)) : Option (Bool) := if (l0.length : Int) = (l1.length : Int) then (laws_eqObjectS.l0 k l0 l1 0) else (some false)
def laws_eqObjectS.T6 : Bool × List (List Nat × List Nat) := (true, [([], []), ([], []), ([0, 1], [0, 1]), ([2], [2]), ([], []), ([], []), ([4, 5], [4, 5]), ([6], [6]), ([3, 7], [3, 7]), ([8], [8])])
def laws_eqObjectS.B6 : List Nat := [0, 0, 3, 7, 0, 0, 48, 112, 255, 511]
theorem laws_eqObjectS.tab6 : rtab .any (opsOf Try.f43 6) = laws_eqObjectS.T6 := by kernel_rfl
theorem laws_eqObjectS.bits6 : waitsOk laws_eqObjectS.T6.2 laws_eqObjectS.B6 = true := by kernel_rfl
theorem laws_eqObjectS.calls (k : Nat) (A0 : Option Addr) (c0 : Nat) (l0 : List (S45)) (A1 : Option Addr) (c1 : Nat) (l1 : List (S45)) (r : Bool) (w : World) (hr0 : Kd.C k45 w A0 l0.length l0) (hc0 : l0.length ≤ c0) (hr1 : Kd.C k45 w A1 l1.length l1) (hc1 : l1.length ≤ c1) (h : laws_eqObjectS.f k l0 l1 = some r) :
    Calls Try.prog 43 #[.slice A0 l0.length c0, .slice A1 l1.length c1] w fun e w' => e = .returned (.bool r) ∧ Below w.heap.size w w' := by
  have hu45 := Try.underlying45
  have HR0 := Aside0.mk hr0
  have HC0 := Aside0.mk hc0
  clear hr0 hc0
  have HR1 := Aside0.mk hr1
  have HC1 := Aside0.mk hc1
  clear hr1 hc1
  have HB := Aside0.mk (Below.refl w.heap.size w)
  have H : (if (l0.length : Int) = (l1.length : Int) then (laws_eqObjectS.l0 k l0 l1 0) else (some false)) = some r := h
  clear h
  by_cases c3 : (l0.length : Int) = (l1.length : Int)
  · rw [if_pos c3] at H
    have c3b0 : ((l0.length : Int) == (l1.length : Int)) = true := beq_iff_eq.mpr c3
    have c3b1 : ((l0.length : Int) != (l1.length : Int)) = false := bne_eq_false_iff_eq.mpr c3
    have c3b2 : (l0.length == l1.length) = true := by first | simpa using c3 | (simp at c3 ⊢; omega)
    clear c3
    have H' := Aside0.mk H
    clear H
    go_enter Try.func43, Try.ntmps43
    go_wp2
    go_loopg [5] k (fun kq v5 w' => ∃ (x5_1 : Int), v5 = .int .i64 x5_1 ∧ Aside0 (laws_eqObjectS.l0 kq l0 l1 x5_1 = some r) ∧ Aside0 (kq ≤ k) ∧ Aside0 (Below w.heap.size w w'))
    case atStart => exact ⟨(0), (by first | rfl | (simp; done) | (simp [*]; done)), H', ⟨Nat.le_refl _⟩, ⟨bS⟩⟩
    case round =>
      clear H'
      try clear c1
      try clear p2
      try clear c3
      try clear c3b0
      try clear c3b1
      try clear c3b2
      obtain ⟨x5_1, rfl, HA, HK1, HB⟩ := hrel
      cases gk with
      | zero => exact absurd HA.out (by simp [laws_eqObjectS.l0])
      | succ k1 =>
        have H := HA.out
        clear HA
        simp only [laws_eqObjectS.l0] at H
        by_cases c4 : x5_1 < (l0.length : Int)
        · rw [if_pos c4] at H
          have c4b0 : decide (x5_1 < (l0.length : Int)) = true := decide_eq_true c4
          clear c4
          by_cases c5 : 0 ≤ x5_1
          · rw [if_pos c5] at H
            have c5b0 : decide (0 ≤ x5_1) = true := decide_eq_true c5
            clear c5
            by_cases c6 : x5_1 < (l1.length : Int)
            · rw [if_pos c6] at H
              have c6b0 : decide (x5_1 < (l1.length : Int)) = true := decide_eq_true c6
              clear c6
              replace H := bN H
              obtain ⟨t401, A7, H⟩ := H
              by_cases c8 : t401 = true
              · subst c8
                rw [if_pos rfl] at H
                have H' := Aside0.mk H
                clear H
                try go_wp2
                replace HB := Aside0.mk (below_drew1 HB.out)
                have p399 : 0 ≤ (x5_1 : Int) := of_decide_eq_true (by first | (with_reducible assumption) | assumption)
                have q399 : x5_1 < (l0.length : Int) := of_decide_eq_true (by first | (with_reducible assumption) | assumption)
                obtain ⟨ad399, A399_0, c399_0, e399, hx399_0, hx399_1, hx399_2, hx399_3, hx399_4, hx399_5, hl399_0, hi399_0⟩ := at_T45 HR0.out x5_1 p399 q399
                have hw399_5 := hx399_5
                have hw399_4 := hx399_4
                have hw399_3 := hx399_3
                have hw399_2 := hx399_2
                have hw399_1 := hx399_1
                have hw399_0 := hx399_0
                cases e399
                replace hx399_0 := (HB.out.cell (World.block_lt_of_cell? w _ hx399_0)).trans hx399_0
                replace hx399_1 := (HB.out.cell (World.block_lt_of_cell? w _ hx399_1)).trans hx399_1
                replace hx399_2 := (HB.out.cell (World.block_lt_of_cell? w _ hx399_2)).trans hx399_2
                replace hx399_3 := (HB.out.cell (World.block_lt_of_cell? w _ hx399_3)).trans hx399_3
                replace hx399_4 := (HB.out.cell (World.block_lt_of_cell? w _ hx399_4)).trans hx399_4
                replace hx399_5 := (HB.out.cell (World.block_lt_of_cell? w _ hx399_5)).trans hx399_5
                have HR399_0 := Aside0.mk hi399_0
                have HC399_0 := Aside0.mk hl399_0
                clear hi399_0 hl399_0
                replace p399 := eq_true p399
                replace q399 := eq_true q399
                have p400 : 0 ≤ (x5_1 : Int) := of_decide_eq_true (by first | (with_reducible assumption) | assumption)
                have q400 : x5_1 < (l1.length : Int) := of_decide_eq_true (by first | (with_reducible assumption) | assumption)
                obtain ⟨ad400, A400_0, c400_0, e400, hx400_0, hx400_1, hx400_2, hx400_3, hx400_4, hx400_5, hl400_0, hi400_0⟩ := at_T45 HR1.out x5_1 p400 q400
                have hw400_5 := hx400_5
                have hw400_4 := hx400_4
                have hw400_3 := hx400_3
                have hw400_2 := hx400_2
                have hw400_1 := hx400_1
                have hw400_0 := hx400_0
                cases e400
                replace hx400_0 := (HB.out.cell (World.block_lt_of_cell? w _ hx400_0)).trans hx400_0
                replace hx400_1 := (HB.out.cell (World.block_lt_of_cell? w _ hx400_1)).trans hx400_1
                replace hx400_2 := (HB.out.cell (World.block_lt_of_cell? w _ hx400_2)).trans hx400_2
                replace hx400_3 := (HB.out.cell (World.block_lt_of_cell? w _ hx400_3)).trans hx400_3
                replace hx400_4 := (HB.out.cell (World.block_lt_of_cell? w _ hx400_4)).trans hx400_4
                replace hx400_5 := (HB.out.cell (World.block_lt_of_cell? w _ hx400_5)).trans hx400_5
                have HR400_0 := Aside0.mk hi400_0
                have HC400_0 := Aside0.mk hl400_0
                clear hi400_0 hl400_0
                replace p400 := eq_true p400
                replace q400 := eq_true q400
                refine start_ (n := 10) (S := fun w' => w'.cell? (ad399.add ((x5_1).toNat * 6)) = some (.slice A399_0 ((rd_T45 l0 x5_1).f0).length c399_0) ∧ w'.cell? ⟨(ad399.add ((x5_1).toNat * 6)).block, (ad399.add ((x5_1).toNat * 6)).off + 1, none⟩ = some (.int .i64 ((rd_T45 l0 x5_1).f1)) ∧ w'.cell? ⟨(ad399.add ((x5_1).toNat * 6)).block, (ad399.add ((x5_1).toNat * 6)).off + 2, none⟩ = some (.int .i64 ((rd_T45 l0 x5_1).f2.f0)) ∧ w'.cell? ⟨(ad399.add ((x5_1).toNat * 6)).block, (ad399.add ((x5_1).toNat * 6)).off + 3, none⟩ = some (.int .i64 ((rd_T45 l0 x5_1).f2.f1)) ∧ w'.cell? ⟨(ad399.add ((x5_1).toNat * 6)).block, (ad399.add ((x5_1).toNat * 6)).off + 4, none⟩ = some (.int .i64 ((rd_T45 l0 x5_1).f2.f2)) ∧ w'.cell? ⟨(ad399.add ((x5_1).toNat * 6)).block, (ad399.add ((x5_1).toNat * 6)).off + 5, none⟩ = some (.int .i64 ((rd_T45 l0 x5_1).f2.f3)) ∧ w'.cell? (ad400.add ((x5_1).toNat * 6)) = some (.slice A400_0 ((rd_T45 l1 x5_1).f0).length c400_0) ∧ w'.cell? ⟨(ad400.add ((x5_1).toNat * 6)).block, (ad400.add ((x5_1).toNat * 6)).off + 1, none⟩ = some (.int .i64 ((rd_T45 l1 x5_1).f1)) ∧ w'.cell? ⟨(ad400.add ((x5_1).toNat * 6)).block, (ad400.add ((x5_1).toNat * 6)).off + 2, none⟩ = some (.int .i64 ((rd_T45 l1 x5_1).f2.f0)) ∧ w'.cell? ⟨(ad400.add ((x5_1).toNat * 6)).block, (ad400.add ((x5_1).toNat * 6)).off + 3, none⟩ = some (.int .i64 ((rd_T45 l1 x5_1).f2.f1)) ∧ w'.cell? ⟨(ad400.add ((x5_1).toNat * 6)).block, (ad400.add ((x5_1).toNat * 6)).off + 4, none⟩ = some (.int .i64 ((rd_T45 l1 x5_1).f2.f2)) ∧ w'.cell? ⟨(ad400.add ((x5_1).toNat * 6)).block, (ad400.add ((x5_1).toNat * 6)).off + 5, none⟩ = some (.int .i64 ((rd_T45 l1 x5_1).f2.f3))) (ds := []) #[false, false, false, false, false, false, false, false, false, false] (by kernel_rfl) rfl rfl ⟨((HB.out.cell (World.block_lt_of_cell? w _ hw399_0)).trans hw399_0), ((HB.out.cell (World.block_lt_of_cell? w _ hw399_1)).trans hw399_1), ((HB.out.cell (World.block_lt_of_cell? w _ hw399_2)).trans hw399_2), ((HB.out.cell (World.block_lt_of_cell? w _ hw399_3)).trans hw399_3), ((HB.out.cell (World.block_lt_of_cell? w _ hw399_4)).trans hw399_4), ((HB.out.cell (World.block_lt_of_cell? w _ hw399_5)).trans hw399_5), ((HB.out.cell (World.block_lt_of_cell? w _ hw400_0)).trans hw400_0), ((HB.out.cell (World.block_lt_of_cell? w _ hw400_1)).trans hw400_1), ((HB.out.cell (World.block_lt_of_cell? w _ hw400_2)).trans hw400_2), ((HB.out.cell (World.block_lt_of_cell? w _ hw400_3)).trans hw400_3), ((HB.out.cell (World.block_lt_of_cell? w _ hw400_4)).trans hw400_4), ((HB.out.cell (World.block_lt_of_cell? w _ hw400_5)).trans hw400_5)⟩ (fun hHeld => ?_); refine with_tabW laws_eqObjectS.tab6 laws_eqObjectS.bits6 (fun HT_ HW_ => ?_)
                generalize wr.drew = w9 at HB HR399_0 HR400_0 hx399_0 hx399_1 hx399_2 hx399_3 hx399_4 hx399_5 hx400_0 hx400_1 hx400_2 hx400_3 hx400_4 hx400_5 hHeld ⊢
                refine pure_ (i := 0) (N := some 17) (v := ?_) (a' := ?_) #[true, false, false, false, false, false, false, false, false, false] rfl rfl (any_of HT_.out (by kernel_rfl)) (fun _ _ _ h => h) (Or.inl ⟨by rfl, ?_⟩) ?_ ?_
                rotate_left
                · intro w'
                  go_simp
                  with_reducible rfl
                rotate_left
                · simp only [Act.put, List.setIfInBounds_toArray, List.set_cons_zero, List.set_cons_succ, i64_w, i32_w]
                  rfl
                refine pure_ (i := 1) (N := some 18) (v := ?_) (a' := ?_) #[true, true, false, false, false, false, false, false, false, false] rfl rfl (any_of HT_.out (by kernel_rfl)) (fun _ _ _ h => h) (Or.inl ⟨by rfl, ?_⟩) ?_ ?_
                rotate_left
                · intro w'
                  go_simp
                  with_reducible rfl
                rotate_left
                · simp only [Act.put, List.setIfInBounds_toArray, List.set_cons_zero, List.set_cons_succ, i64_w, i32_w]
                  rfl
                refine pure_ (i := 2) (N := some 19) (v := ?_) (a' := ?_) #[true, true, true, false, false, false, false, false, false, false] rfl rfl (any_of HT_.out (by kernel_rfl)) (fun _ _ _ h => h) (Or.inl ⟨by rfl, ?_⟩) ?_ ?_
                rotate_left
                · intro w'
                  go_simp
                  with_reducible rfl
                rotate_left
                · simp only [Act.put, List.setIfInBounds_toArray, List.set_cons_zero, List.set_cons_succ, i64_w, i32_w]
                  rfl
                refine pure_ (i := 4) (N := some 21) (v := ?_) (a' := ?_) #[true, true, true, false, true, false, false, false, false, false] rfl rfl (any_of HT_.out (by kernel_rfl)) (fun _ _ _ h => h) (Or.inl ⟨by rfl, ?_⟩) ?_ ?_
                rotate_left
                · intro w'
                  go_simp
                  with_reducible rfl
                rotate_left
                · simp only [Act.put, List.setIfInBounds_toArray, List.set_cons_zero, List.set_cons_succ, i64_w, i32_w]
                  rfl
                refine pure_ (i := 5) (N := some 22) (v := ?_) (a' := ?_) #[true, true, true, false, true, true, false, false, false, false] rfl rfl (any_of HT_.out (by kernel_rfl)) (fun _ _ _ h => h) (Or.inl ⟨by rfl, ?_⟩) ?_ ?_
                rotate_left
                · intro w'
                  go_simp
                  with_reducible rfl
                rotate_left
                · simp only [Act.put, List.setIfInBounds_toArray, List.set_cons_zero, List.set_cons_succ, i64_w, i32_w]
                  rfl
                refine pure_ (i := 6) (N := some 23) (v := ?_) (a' := ?_) #[true, true, true, false, true, true, true, false, false, false] rfl rfl (any_of HT_.out (by kernel_rfl)) (fun _ _ _ h => h) (Or.inl ⟨by rfl, ?_⟩) ?_ ?_
                rotate_left
                · intro w'
                  go_simp
                  with_reducible rfl
                rotate_left
                · simp only [Act.put, List.setIfInBounds_toArray, List.set_cons_zero, List.set_cons_succ, i64_w, i32_w]
                  rfl
                refine take_ (i := 3) (N := some 20) (v := ?_) (a' := ?_) #[true, true, true, true, true, true, true, false, false, false] rfl rfl (take_ofW HT_.out HW_.out (by kernel_rfl)) (fun _ _ _ h => h) (Or.inl ⟨by rfl, ?_⟩) hHeld ?_ ?_
                rotate_left
                · rintro w' ⟨s0, s1, s2, s3, s4, s5, s6, s7, s8, s9, s10, s11⟩
                  go_simp
                  with_reducible rfl
                rotate_left
                · simp only [Act.put, List.setIfInBounds_toArray, List.set_cons_zero, List.set_cons_succ, i64_w, i32_w]
                  rfl
                refine take_ (i := 7) (N := some 24) (v := ?_) (a' := ?_) #[true, true, true, true, true, true, true, true, false, false] rfl rfl (take_ofW HT_.out HW_.out (by kernel_rfl)) (fun _ _ _ h => h) (Or.inl ⟨by rfl, ?_⟩) hHeld ?_ ?_
                rotate_left
                · rintro w' ⟨s0, s1, s2, s3, s4, s5, s6, s7, s8, s9, s10, s11⟩
                  go_simp
                  with_reducible rfl
                rotate_left
                · simp only [Act.put, List.setIfInBounds_toArray, List.set_cons_zero, List.set_cons_succ, i64_w, i32_w]
                  rfl
                refine one_ (i := 8) (N := some 25) #[true, true, true, true, true, true, true, true, true, false] rfl rfl (one_of HT_.out (by kernel_rfl)) (by decide) (fun K hK => ?_)
                refine goes_ Try.func28 (by kernel_rfl) rfl #[.agg #[.slice A399_0 ((rd_T45 l0 x5_1).f0).length c399_0, .int .i64 ((rd_T45 l0 x5_1).f1), .int .i64 ((rd_T45 l0 x5_1).f2.f0), .int .i64 ((rd_T45 l0 x5_1).f2.f1), .int .i64 ((rd_T45 l0 x5_1).f2.f2), .int .i64 ((rd_T45 l0 x5_1).f2.f3)], .agg #[.slice A400_0 ((rd_T45 l1 x5_1).f0).length c400_0, .int .i64 ((rd_T45 l1 x5_1).f1), .int .i64 ((rd_T45 l1 x5_1).f2.f0), .int .i64 ((rd_T45 l1 x5_1).f2.f1), .int .i64 ((rd_T45 l1 x5_1).f2.f2), .int .i64 ((rd_T45 l1 x5_1).f2.f3)]] (by rfl) rfl rfl (by (try simp only [List.map_toArray, List.map_cons, List.map_nil]); first | done | rfl | (simp only [List.length_drop, List.length_take]; rfl)) ?_
                with_reducible refine (laws_eqObject.calls k1 _ _ ((rd_T45 l0 x5_1).f0) ((rd_T45 l0 x5_1).f1) ((rd_T45 l0 x5_1).f2.f0) ((rd_T45 l0 x5_1).f2.f1) ((rd_T45 l0 x5_1).f2.f2) ((rd_T45 l0 x5_1).f2.f3) _ _ ((rd_T45 l1 x5_1).f0) ((rd_T45 l1 x5_1).f1) ((rd_T45 l1 x5_1).f2.f0) ((rd_T45 l1 x5_1).f2.f1) ((rd_T45 l1 x5_1).f2.f2) ((rd_T45 l1 x5_1).f2.f3) true _ ?side1 ?side2 ?side3 ?side4 A7.out).mono ?_
                (case side1 => exact cS (Kd.C_below HR399_0.out HB.out))
                (case side2 => exact HC399_0.out)
                (case side3 => exact cS (Kd.C_below HR400_0.out HB.out))
                (case side4 => exact HC400_0.out)
                rintro e w10 ⟨rfl, hb⟩
                refine ⟨_, rfl, ?_⟩
                replace HB := hB hb
                (try clear hb)
                (try clear hb2)
                (try clear hk)
                (try clear hi)
                refine hK.out _ _ ⟨((HB.out.cell (World.block_lt_of_cell? w _ hw399_0)).trans hw399_0), ((HB.out.cell (World.block_lt_of_cell? w _ hw399_1)).trans hw399_1), ((HB.out.cell (World.block_lt_of_cell? w _ hw399_2)).trans hw399_2), ((HB.out.cell (World.block_lt_of_cell? w _ hw399_3)).trans hw399_3), ((HB.out.cell (World.block_lt_of_cell? w _ hw399_4)).trans hw399_4), ((HB.out.cell (World.block_lt_of_cell? w _ hw399_5)).trans hw399_5), ((HB.out.cell (World.block_lt_of_cell? w _ hw400_0)).trans hw400_0), ((HB.out.cell (World.block_lt_of_cell? w _ hw400_1)).trans hw400_1), ((HB.out.cell (World.block_lt_of_cell? w _ hw400_2)).trans hw400_2), ((HB.out.cell (World.block_lt_of_cell? w _ hw400_3)).trans hw400_3), ((HB.out.cell (World.block_lt_of_cell? w _ hw400_4)).trans hw400_4), ((HB.out.cell (World.block_lt_of_cell? w _ hw400_5)).trans hw400_5)⟩ (fun hHeld => ?_)
                clear hK K
                refine norm_ (a' := ?_) ?_ ?_
                rotate_left
                · show Act.put _ (some 25) _ = _
                  simp only [Act.put, List.setIfInBounds_toArray, List.set_cons_zero, List.set_cons_succ, i64_w, i32_w]
                  rfl
                refine pure_ (i := 9) (N := some 26) (v := ?_) (a' := ?_) #[true, true, true, true, true, true, true, true, true, true] rfl rfl (any_of HT_.out (by kernel_rfl)) (fun _ _ _ h => h) (Or.inl ⟨by rfl, ?_⟩) ?_ ?_
                rotate_left
                · intro w'
                  go_simp
                  with_reducible rfl
                rotate_left
                · simp only [Act.put, List.setIfInBounds_toArray, List.set_cons_zero, List.set_cons_succ, i64_w, i32_w]
                  rfl
                refine done_ (done_of HT_.out (by kernel_rfl)) ?_
                try go_wp2
                go_roundg k1
                case measure => have := HK1.out; omega
                case rel => exact ⟨(wrap64 (x5_1 + 1)), (by first | rfl | (simp; done) | (simp [*]; done)), H', ⟨by have := HK1.out; omega⟩, ⟨bS⟩⟩
              · obtain rfl := Bool.eq_false_iff.mpr c8
                rw [if_neg nF] at H
                obtain rfl := Option.some.inj H
                try go_wp2
                replace HB := Aside0.mk (below_drew1 HB.out)
                have p399 : 0 ≤ (x5_1 : Int) := of_decide_eq_true (by first | (with_reducible assumption) | assumption)
                have q399 : x5_1 < (l0.length : Int) := of_decide_eq_true (by first | (with_reducible assumption) | assumption)
                obtain ⟨ad399, A399_0, c399_0, e399, hx399_0, hx399_1, hx399_2, hx399_3, hx399_4, hx399_5, hl399_0, hi399_0⟩ := at_T45 HR0.out x5_1 p399 q399
                have hw399_5 := hx399_5
                have hw399_4 := hx399_4
                have hw399_3 := hx399_3
                have hw399_2 := hx399_2
                have hw399_1 := hx399_1
                have hw399_0 := hx399_0
                cases e399
                replace hx399_0 := (HB.out.cell (World.block_lt_of_cell? w _ hx399_0)).trans hx399_0
                replace hx399_1 := (HB.out.cell (World.block_lt_of_cell? w _ hx399_1)).trans hx399_1
                replace hx399_2 := (HB.out.cell (World.block_lt_of_cell? w _ hx399_2)).trans hx399_2
                replace hx399_3 := (HB.out.cell (World.block_lt_of_cell? w _ hx399_3)).trans hx399_3
                replace hx399_4 := (HB.out.cell (World.block_lt_of_cell? w _ hx399_4)).trans hx399_4
                replace hx399_5 := (HB.out.cell (World.block_lt_of_cell? w _ hx399_5)).trans hx399_5
                have HR399_0 := Aside0.mk hi399_0
                have HC399_0 := Aside0.mk hl399_0
                clear hi399_0 hl399_0
                replace p399 := eq_true p399
                replace q399 := eq_true q399
                have p400 : 0 ≤ (x5_1 : Int) := of_decide_eq_true (by first | (with_reducible assumption) | assumption)
                have q400 : x5_1 < (l1.length : Int) := of_decide_eq_true (by first | (with_reducible assumption) | assumption)
                obtain ⟨ad400, A400_0, c400_0, e400, hx400_0, hx400_1, hx400_2, hx400_3, hx400_4, hx400_5, hl400_0, hi400_0⟩ := at_T45 HR1.out x5_1 p400 q400
                have hw400_5 := hx400_5
                have hw400_4 := hx400_4
                have hw400_3 := hx400_3
                have hw400_2 := hx400_2
                have hw400_1 := hx400_1
                have hw400_0 := hx400_0
                cases e400
                replace hx400_0 := (HB.out.cell (World.block_lt_of_cell? w _ hx400_0)).trans hx400_0
                replace hx400_1 := (HB.out.cell (World.block_lt_of_cell? w _ hx400_1)).trans hx400_1
                replace hx400_2 := (HB.out.cell (World.block_lt_of_cell? w _ hx400_2)).trans hx400_2
                replace hx400_3 := (HB.out.cell (World.block_lt_of_cell? w _ hx400_3)).trans hx400_3
                replace hx400_4 := (HB.out.cell (World.block_lt_of_cell? w _ hx400_4)).trans hx400_4
                replace hx400_5 := (HB.out.cell (World.block_lt_of_cell? w _ hx400_5)).trans hx400_5
                have HR400_0 := Aside0.mk hi400_0
                have HC400_0 := Aside0.mk hl400_0
                clear hi400_0 hl400_0
                replace p400 := eq_true p400
                replace q400 := eq_true q400
                refine start_ (n := 10) (S := fun w' => w'.cell? (ad399.add ((x5_1).toNat * 6)) = some (.slice A399_0 ((rd_T45 l0 x5_1).f0).length c399_0) ∧ w'.cell? ⟨(ad399.add ((x5_1).toNat * 6)).block, (ad399.add ((x5_1).toNat * 6)).off + 1, none⟩ = some (.int .i64 ((rd_T45 l0 x5_1).f1)) ∧ w'.cell? ⟨(ad399.add ((x5_1).toNat * 6)).block, (ad399.add ((x5_1).toNat * 6)).off + 2, none⟩ = some (.int .i64 ((rd_T45 l0 x5_1).f2.f0)) ∧ w'.cell? ⟨(ad399.add ((x5_1).toNat * 6)).block, (ad399.add ((x5_1).toNat * 6)).off + 3, none⟩ = some (.int .i64 ((rd_T45 l0 x5_1).f2.f1)) ∧ w'.cell? ⟨(ad399.add ((x5_1).toNat * 6)).block, (ad399.add ((x5_1).toNat * 6)).off + 4, none⟩ = some (.int .i64 ((rd_T45 l0 x5_1).f2.f2)) ∧ w'.cell? ⟨(ad399.add ((x5_1).toNat * 6)).block, (ad399.add ((x5_1).toNat * 6)).off + 5, none⟩ = some (.int .i64 ((rd_T45 l0 x5_1).f2.f3)) ∧ w'.cell? (ad400.add ((x5_1).toNat * 6)) = some (.slice A400_0 ((rd_T45 l1 x5_1).f0).length c400_0) ∧ w'.cell? ⟨(ad400.add ((x5_1).toNat * 6)).block, (ad400.add ((x5_1).toNat * 6)).off + 1, none⟩ = some (.int .i64 ((rd_T45 l1 x5_1).f1)) ∧ w'.cell? ⟨(ad400.add ((x5_1).toNat * 6)).block, (ad400.add ((x5_1).toNat * 6)).off + 2, none⟩ = some (.int .i64 ((rd_T45 l1 x5_1).f2.f0)) ∧ w'.cell? ⟨(ad400.add ((x5_1).toNat * 6)).block, (ad400.add ((x5_1).toNat * 6)).off + 3, none⟩ = some (.int .i64 ((rd_T45 l1 x5_1).f2.f1)) ∧ w'.cell? ⟨(ad400.add ((x5_1).toNat * 6)).block, (ad400.add ((x5_1).toNat * 6)).off + 4, none⟩ = some (.int .i64 ((rd_T45 l1 x5_1).f2.f2)) ∧ w'.cell? ⟨(ad400.add ((x5_1).toNat * 6)).block, (ad400.add ((x5_1).toNat * 6)).off + 5, none⟩ = some (.int .i64 ((rd_T45 l1 x5_1).f2.f3))) (ds := []) #[false, false, false, false, false, false, false, false, false, false] (by kernel_rfl) rfl rfl ⟨((HB.out.cell (World.block_lt_of_cell? w _ hw399_0)).trans hw399_0), ((HB.out.cell (World.block_lt_of_cell? w _ hw399_1)).trans hw399_1), ((HB.out.cell (World.block_lt_of_cell? w _ hw399_2)).trans hw399_2), ((HB.out.cell (World.block_lt_of_cell? w _ hw399_3)).trans hw399_3), ((HB.out.cell (World.block_lt_of_cell? w _ hw399_4)).trans hw399_4), ((HB.out.cell (World.block_lt_of_cell? w _ hw399_5)).trans hw399_5), ((HB.out.cell (World.block_lt_of_cell? w _ hw400_0)).trans hw400_0), ((HB.out.cell (World.block_lt_of_cell? w _ hw400_1)).trans hw400_1), ((HB.out.cell (World.block_lt_of_cell? w _ hw400_2)).trans hw400_2), ((HB.out.cell (World.block_lt_of_cell? w _ hw400_3)).trans hw400_3), ((HB.out.cell (World.block_lt_of_cell? w _ hw400_4)).trans hw400_4), ((HB.out.cell (World.block_lt_of_cell? w _ hw400_5)).trans hw400_5)⟩ (fun hHeld => ?_); refine with_tabW laws_eqObjectS.tab6 laws_eqObjectS.bits6 (fun HT_ HW_ => ?_)
                generalize wr.drew = w11 at HB HR399_0 HR400_0 hx399_0 hx399_1 hx399_2 hx399_3 hx399_4 hx399_5 hx400_0 hx400_1 hx400_2 hx400_3 hx400_4 hx400_5 hHeld ⊢
                refine pure_ (i := 0) (N := some 17) (v := ?_) (a' := ?_) #[true, false, false, false, false, false, false, false, false, false] rfl rfl (any_of HT_.out (by kernel_rfl)) (fun _ _ _ h => h) (Or.inl ⟨by rfl, ?_⟩) ?_ ?_
                rotate_left
                · intro w'
                  go_simp
                  with_reducible rfl
                rotate_left
                · simp only [Act.put, List.setIfInBounds_toArray, List.set_cons_zero, List.set_cons_succ, i64_w, i32_w]
                  rfl
                refine pure_ (i := 1) (N := some 18) (v := ?_) (a' := ?_) #[true, true, false, false, false, false, false, false, false, false] rfl rfl (any_of HT_.out (by kernel_rfl)) (fun _ _ _ h => h) (Or.inl ⟨by rfl, ?_⟩) ?_ ?_
                rotate_left
                · intro w'
                  go_simp
                  with_reducible rfl
                rotate_left
                · simp only [Act.put, List.setIfInBounds_toArray, List.set_cons_zero, List.set_cons_succ, i64_w, i32_w]
                  rfl
                refine pure_ (i := 2) (N := some 19) (v := ?_) (a' := ?_) #[true, true, true, false, false, false, false, false, false, false] rfl rfl (any_of HT_.out (by kernel_rfl)) (fun _ _ _ h => h) (Or.inl ⟨by rfl, ?_⟩) ?_ ?_
                rotate_left
                · intro w'
                  go_simp
                  with_reducible rfl
                rotate_left
                · simp only [Act.put, List.setIfInBounds_toArray, List.set_cons_zero, List.set_cons_succ, i64_w, i32_w]
                  rfl
                refine pure_ (i := 4) (N := some 21) (v := ?_) (a' := ?_) #[true, true, true, false, true, false, false, false, false, false] rfl rfl (any_of HT_.out (by kernel_rfl)) (fun _ _ _ h => h) (Or.inl ⟨by rfl, ?_⟩) ?_ ?_
                rotate_left
                · intro w'
                  go_simp
                  with_reducible rfl
                rotate_left
                · simp only [Act.put, List.setIfInBounds_toArray, List.set_cons_zero, List.set_cons_succ, i64_w, i32_w]
                  rfl
                refine pure_ (i := 5) (N := some 22) (v := ?_) (a' := ?_) #[true, true, true, false, true, true, false, false, false, false] rfl rfl (any_of HT_.out (by kernel_rfl)) (fun _ _ _ h => h) (Or.inl ⟨by rfl, ?_⟩) ?_ ?_
                rotate_left
                · intro w'
                  go_simp
                  with_reducible rfl
                rotate_left
                · simp only [Act.put, List.setIfInBounds_toArray, List.set_cons_zero, List.set_cons_succ, i64_w, i32_w]
                  rfl
                refine pure_ (i := 6) (N := some 23) (v := ?_) (a' := ?_) #[true, true, true, false, true, true, true, false, false, false] rfl rfl (any_of HT_.out (by kernel_rfl)) (fun _ _ _ h => h) (Or.inl ⟨by rfl, ?_⟩) ?_ ?_
                rotate_left
                · intro w'
                  go_simp
                  with_reducible rfl
                rotate_left
                · simp only [Act.put, List.setIfInBounds_toArray, List.set_cons_zero, List.set_cons_succ, i64_w, i32_w]
                  rfl
                refine take_ (i := 3) (N := some 20) (v := ?_) (a' := ?_) #[true, true, true, true, true, true, true, false, false, false] rfl rfl (take_ofW HT_.out HW_.out (by kernel_rfl)) (fun _ _ _ h => h) (Or.inl ⟨by rfl, ?_⟩) hHeld ?_ ?_
                rotate_left
                · rintro w' ⟨s0, s1, s2, s3, s4, s5, s6, s7, s8, s9, s10, s11⟩
                  go_simp
                  with_reducible rfl
                rotate_left
                · simp only [Act.put, List.setIfInBounds_toArray, List.set_cons_zero, List.set_cons_succ, i64_w, i32_w]
                  rfl
                refine take_ (i := 7) (N := some 24) (v := ?_) (a' := ?_) #[true, true, true, true, true, true, true, true, false, false] rfl rfl (take_ofW HT_.out HW_.out (by kernel_rfl)) (fun _ _ _ h => h) (Or.inl ⟨by rfl, ?_⟩) hHeld ?_ ?_
                rotate_left
                · rintro w' ⟨s0, s1, s2, s3, s4, s5, s6, s7, s8, s9, s10, s11⟩
                  go_simp
                  with_reducible rfl
                rotate_left
                · simp only [Act.put, List.setIfInBounds_toArray, List.set_cons_zero, List.set_cons_succ, i64_w, i32_w]
                  rfl
                refine one_ (i := 8) (N := some 25) #[true, true, true, true, true, true, true, true, true, false] rfl rfl (one_of HT_.out (by kernel_rfl)) (by decide) (fun K hK => ?_)
                refine goes_ Try.func28 (by kernel_rfl) rfl #[.agg #[.slice A399_0 ((rd_T45 l0 x5_1).f0).length c399_0, .int .i64 ((rd_T45 l0 x5_1).f1), .int .i64 ((rd_T45 l0 x5_1).f2.f0), .int .i64 ((rd_T45 l0 x5_1).f2.f1), .int .i64 ((rd_T45 l0 x5_1).f2.f2), .int .i64 ((rd_T45 l0 x5_1).f2.f3)], .agg #[.slice A400_0 ((rd_T45 l1 x5_1).f0).length c400_0, .int .i64 ((rd_T45 l1 x5_1).f1), .int .i64 ((rd_T45 l1 x5_1).f2.f0), .int .i64 ((rd_T45 l1 x5_1).f2.f1), .int .i64 ((rd_T45 l1 x5_1).f2.f2), .int .i64 ((rd_T45 l1 x5_1).f2.f3)]] (by rfl) rfl rfl (by (try simp only [List.map_toArray, List.map_cons, List.map_nil]); first | done | rfl | (simp only [List.length_drop, List.length_take]; rfl)) ?_
                with_reducible refine (laws_eqObject.calls k1 _ _ ((rd_T45 l0 x5_1).f0) ((rd_T45 l0 x5_1).f1) ((rd_T45 l0 x5_1).f2.f0) ((rd_T45 l0 x5_1).f2.f1) ((rd_T45 l0 x5_1).f2.f2) ((rd_T45 l0 x5_1).f2.f3) _ _ ((rd_T45 l1 x5_1).f0) ((rd_T45 l1 x5_1).f1) ((rd_T45 l1 x5_1).f2.f0) ((rd_T45 l1 x5_1).f2.f1) ((rd_T45 l1 x5_1).f2.f2) ((rd_T45 l1 x5_1).f2.f3) false _ ?side1 ?side2 ?side3 ?side4 A7.out).mono ?_
                (case side1 => exact cS (Kd.C_below HR399_0.out HB.out))
                (case side2 => exact HC399_0.out)
                (case side3 => exact cS (Kd.C_below HR400_0.out HB.out))
                (case side4 => exact HC400_0.out)
                rintro e w12 ⟨rfl, hb⟩
                refine ⟨_, rfl, ?_⟩
                replace HB := hB hb
                (try clear hb)
                (try clear hb2)
                (try clear hk)
                (try clear hi)
                refine hK.out _ _ ⟨((HB.out.cell (World.block_lt_of_cell? w _ hw399_0)).trans hw399_0), ((HB.out.cell (World.block_lt_of_cell? w _ hw399_1)).trans hw399_1), ((HB.out.cell (World.block_lt_of_cell? w _ hw399_2)).trans hw399_2), ((HB.out.cell (World.block_lt_of_cell? w _ hw399_3)).trans hw399_3), ((HB.out.cell (World.block_lt_of_cell? w _ hw399_4)).trans hw399_4), ((HB.out.cell (World.block_lt_of_cell? w _ hw399_5)).trans hw399_5), ((HB.out.cell (World.block_lt_of_cell? w _ hw400_0)).trans hw400_0), ((HB.out.cell (World.block_lt_of_cell? w _ hw400_1)).trans hw400_1), ((HB.out.cell (World.block_lt_of_cell? w _ hw400_2)).trans hw400_2), ((HB.out.cell (World.block_lt_of_cell? w _ hw400_3)).trans hw400_3), ((HB.out.cell (World.block_lt_of_cell? w _ hw400_4)).trans hw400_4), ((HB.out.cell (World.block_lt_of_cell? w _ hw400_5)).trans hw400_5)⟩ (fun hHeld => ?_)
                clear hK K
                refine norm_ (a' := ?_) ?_ ?_
                rotate_left
                · show Act.put _ (some 25) _ = _
                  simp only [Act.put, List.setIfInBounds_toArray, List.set_cons_zero, List.set_cons_succ, i64_w, i32_w]
                  rfl
                refine pure_ (i := 9) (N := some 26) (v := ?_) (a' := ?_) #[true, true, true, true, true, true, true, true, true, true] rfl rfl (any_of HT_.out (by kernel_rfl)) (fun _ _ _ h => h) (Or.inl ⟨by rfl, ?_⟩) ?_ ?_
                rotate_left
                · intro w'
                  go_simp
                  with_reducible rfl
                rotate_left
                · simp only [Act.put, List.setIfInBounds_toArray, List.set_cons_zero, List.set_cons_succ, i64_w, i32_w]
                  rfl
                refine done_ (done_of HT_.out (by kernel_rfl)) ?_
                try go_wp2
                go_ret
                exact ⟨eS, bS⟩
            · rw [if_neg c6] at H
              exact absurd H (by simp)
          · rw [if_neg c5] at H
            exact absurd H (by simp)
        · rw [if_neg c4] at H
          have c4b0 : decide (x5_1 < (l0.length : Int)) = false := decide_eq_false c4
          clear c4
          obtain rfl := Option.some.inj H
          go_wp2
          go_ret
          exact ⟨eS, bS⟩
  · rw [if_neg c3] at H
    have c3b0 : ((l0.length : Int) == (l1.length : Int)) = false := beq_eq_false_iff_ne.mpr c3
    have c3b1 : ((l0.length : Int) != (l1.length : Int)) = true := bne_iff_ne.mpr c3
    have c3b2 : (l0.length == l1.length) = false := by first | simpa using c3 | (simp at c3 ⊢; omega)
    obtain rfl := Option.some.inj H
    go_enter Try.func43, Try.ntmps43
    go_wp2
    go_ret
    exact ⟨eS, bS⟩

/-! ### laws_FnExactBandTime: function 7 -/
def laws_FnExactBandTime.f (k : Nat) (l0 : List (S38)) (a1 : Int) (a2 : Int) : Option (Bool) := (laws_szObjectS.f k l0 1048576).bind fun t402 => (if t402 < 0 then (some true) else ((laws_toObjectS.f k l0).bind fun t403 => ((spec_BandTime.f k t403 a1 a2).bind fun t406 => ((laws_toObjectS.f k l0).bind fun t407 => ((impl_BandTime.f k t407 a1 a2).bind fun t410 => (if t410 = t406 then ((laws_toObjectS.f k l0).bind fun t411 => ((laws_eqObjectS.f k t407 t411).bind fun t414 => (if t414 = true then (some true) else (some false)))) else (some false)))))))
theorem laws_FnExactBandTime.calls (k : Nat) (A0 : Option Addr) (c0 : Nat) (l0 : List (S38)) (a1 : Int) (a2 : Int) (r : Bool) (w : World) (hr0 : Kd.C k38 w A0 l0.length l0) (hc0 : l0.length ≤ c0) (h : laws_FnExactBandTime.f k l0 a1 a2 = some r) :
    Calls Try.prog 7 #[.slice A0 l0.length c0, .int .i64 a1, .int .i64 a2] w fun e w' => e = .returned (.bool r) ∧ Below w.heap.size w w' := by
  have HR0 := Aside0.mk hr0
  have HC0 := Aside0.mk hc0
  clear hr0 hc0
  have HB := Aside0.mk (Below.refl w.heap.size w)
  have H : ((laws_szObjectS.f k l0 1048576).bind fun t402 => (if t402 < 0 then (some true) else ((laws_toObjectS.f k l0).bind fun t403 => ((spec_BandTime.f k t403 a1 a2).bind fun t406 => ((laws_toObjectS.f k l0).bind fun t407 => ((impl_BandTime.f k t407 a1 a2).bind fun t410 => (if t410 = t406 then ((laws_toObjectS.f k l0).bind fun t411 => ((laws_eqObjectS.f k t407 t411).bind fun t414 => (if t414 = true then (some true) else (some false)))) else (some false)))))))) = some r := h
  clear h
  replace H := bN H
  obtain ⟨t402, A4, H⟩ := H
  by_cases c5 : t402 < 0
  · rw [if_pos c5] at H
    have c5b0 : decide (t402 < 0) = true := decide_eq_true c5
    clear c5
    obtain rfl := Option.some.inj H
    go_enter Try.func7, Try.ntmps7
    go_wp2_with (first | ((with_reducible refine gC 39 ?_); refine cL (some 13) Try.func39 #[.slice A0 l0.length c0, .int .i64 1048576] ?_; (with_reducible refine (laws_szObjectS.calls k _ _ l0 1048576 t402 _ ?side1 ?side2 A4.out).mono ?_); (case side1 => repeat (first | exact HR0.out | (with_reducible refine Kd.C_alloc ?_ _) | (with_reducible refine Kd.C_drewN ?_ _) | (with_reducible refine Kd.C_drew ?_))); (case side2 => exact HC0.out); rintro e w6 ⟨rfl, hb⟩; refine ⟨_, rfl, ?_⟩; replace HB := hB hb; (try clear hb); (try clear hb2); (try clear hk); (try clear hi)))
    go_ret
    exact ⟨eS, bS⟩
  · rw [if_neg c5] at H
    have c5b0 : decide (t402 < 0) = false := decide_eq_false c5
    clear c5
    replace H := bN H
    obtain ⟨t403, A7, H⟩ := H
    replace H := bN H
    obtain ⟨t406, A8, H⟩ := H
    replace H := bN H
    obtain ⟨t407, A9, H⟩ := H
    replace H := bN H
    obtain ⟨t410, A10, H⟩ := H
    by_cases c11 : t410 = t406
    · rw [if_pos c11] at H
      have c11b0 : (t410 == t406) = true := beq_iff_eq.mpr c11
      have c11b1 : (t410 != t406) = false := bne_eq_false_iff_eq.mpr c11
      clear c11
      replace H := bN H
      obtain ⟨t411, A12, H⟩ := H
      replace H := bN H
      obtain ⟨t414, A13, H⟩ := H
      by_cases c14 : t414 = true
      · subst c14
        rw [if_pos rfl] at H
        obtain rfl := Option.some.inj H
        go_enter Try.func7, Try.ntmps7
        go_wp2_with (first | ((with_reducible refine gC 39 ?_); refine cL (some 13) Try.func39 #[.slice A0 l0.length c0, .int .i64 1048576] ?_; (with_reducible refine (laws_szObjectS.calls k _ _ l0 1048576 t402 _ ?side1 ?side2 A4.out).mono ?_); (case side1 => repeat (first | exact HR0.out | (with_reducible refine Kd.C_alloc ?_ _) | (with_reducible refine Kd.C_drewN ?_ _) | (with_reducible refine Kd.C_drew ?_))); (case side2 => exact HC0.out); rintro e w15 ⟨rfl, hb⟩; refine ⟨_, rfl, ?_⟩; replace HB := hB hb; (try clear hb); (try clear hb2); (try clear hk); (try clear hi)) | ((with_reducible refine gC 41 ?_); refine cL (some 17) Try.func41 #[.slice A0 l0.length c0] ?_; (with_reducible refine (laws_toObjectS.calls k _ _ l0 t403 _ ?side1 ?side2 A7.out).mono ?_); (case side1 => exact cS (Kd.C_below HR0.out HB.out)); (case side2 => exact HC0.out); rintro e w16 ⟨v404, rfl, ho0, hb⟩; refine ⟨_, rfl, ?_⟩; have HO405 := Aside0.mk (Kd.S_lower ho0 (below_size bS)); replace HB := hB hb; (try clear hb); (try clear hb2); (try clear hk); (try clear hi); (try clear ho0); obtain ⟨Ao17, co17, eo17⟩ := Kd.S_slice HO405.out; subst eo17) | ((with_reducible refine gC 40 ?_); refine cL (some 20) Try.func40 #[.slice Ao17 t403.length co17, .int .i64 a1, .int .i64 a2] ?_; (with_reducible refine (spec_BandTime.calls k _ _ t403 a1 a2 t406 _ ?side1 ?side2 A8.out).mono ?_); (case side1 => exact cS (Kd.S_reads' HO405.out).2.2); (case side2 => exact (Kd.S_reads' HO405.out).2.1); rintro e w18 ⟨rfl, hb⟩; refine ⟨_, rfl, ?_⟩; replace HO405 := Aside0.mk (Kd.S_below (by (with_reducible repeat (first | apply Kd.S_alloc | apply Kd.S_drewN | apply Kd.S_drew)); exact HO405.out) hb); replace HB := hB hb; (try clear hb); (try clear hb2); (try clear hk); (try clear hi)) | ((with_reducible refine gC 41 ?_); refine cL (some 22) Try.func41 #[.slice A0 l0.length c0] ?_; (with_reducible refine (laws_toObjectS.calls k _ _ l0 t407 _ ?side1 ?side2 A9.out).mono ?_); (case side1 => exact cS (Kd.C_below HR0.out HB.out)); (case side2 => exact HC0.out); rintro e w19 ⟨v408, rfl, ho0, hb⟩; refine ⟨_, rfl, ?_⟩; have HO409 := Aside0.mk (Kd.S_lower (Kd.S_new' ho0 (Kd.S_lt (by (with_reducible repeat (first | apply Kd.S_alloc | apply Kd.S_drewN | apply Kd.S_drew)); exact HO405.out))) (below_size bS)); replace HO405 := Aside0.mk (Kd.S_elder' (by (with_reducible repeat (first | apply Kd.S_alloc | apply Kd.S_drewN | apply Kd.S_drew)); exact HO405.out) (Kd.S_base ho0) hb); replace HB := hB hb; (try clear hb); (try clear hb2); (try clear hk); (try clear hi); (try clear ho0); obtain ⟨Ao20, co20, eo20⟩ := Kd.S_slice HO409.out; subst eo20) | ((with_reducible refine gC 42 ?_); refine cL (some 26) Try.func42 #[.slice Ao20 t407.length co20, .int .i64 a1, .int .i64 a2] ?_; (with_reducible refine (impl_BandTime.calls k _ _ t407 a1 a2 t410 _ ?side1 ?side2 A10.out).mono ?_); (case side1 => exact cS (Kd.S_reads' HO409.out).2.2); (case side2 => exact (Kd.S_reads' HO409.out).2.1); rintro e w21 ⟨rfl, hb⟩; refine ⟨_, rfl, ?_⟩; replace HO405 := Aside0.mk (Kd.S_below (by (with_reducible repeat (first | apply Kd.S_alloc | apply Kd.S_drewN | apply Kd.S_drew)); exact HO405.out) hb); replace HO409 := Aside0.mk (Kd.S_below (by (with_reducible repeat (first | apply Kd.S_alloc | apply Kd.S_drewN | apply Kd.S_drew)); exact HO409.out) hb); replace HB := hB hb; (try clear hb); (try clear hb2); (try clear hk); (try clear hi)) | ((with_reducible refine gC 41 ?_); refine cL (some 32) Try.func41 #[.slice A0 l0.length c0] ?_; (with_reducible refine (laws_toObjectS.calls k _ _ l0 t411 _ ?side1 ?side2 A12.out).mono ?_); (case side1 => exact cS (Kd.C_below HR0.out HB.out)); (case side2 => exact HC0.out); rintro e w22 ⟨v412, rfl, ho0, hb⟩; refine ⟨_, rfl, ?_⟩; have HO413 := Aside0.mk (Kd.S_lower (Kd.S_new' (Kd.S_new' ho0 (Kd.S_lt (by (with_reducible repeat (first | apply Kd.S_alloc | apply Kd.S_drewN | apply Kd.S_drew)); exact HO405.out))) (Kd.S_lt (by (with_reducible repeat (first | apply Kd.S_alloc | apply Kd.S_drewN | apply Kd.S_drew)); exact HO409.out))) (below_size bS)); replace HO405 := Aside0.mk (Kd.S_elder' (by (with_reducible repeat (first | apply Kd.S_alloc | apply Kd.S_drewN | apply Kd.S_drew)); exact HO405.out) (Kd.S_base ho0) hb); replace HO409 := Aside0.mk (Kd.S_elder' (by (with_reducible repeat (first | apply Kd.S_alloc | apply Kd.S_drewN | apply Kd.S_drew)); exact HO409.out) (Kd.S_base ho0) hb); replace HB := hB hb; (try clear hb); (try clear hb2); (try clear hk); (try clear hi); (try clear ho0); obtain ⟨Ao23, co23, eo23⟩ := Kd.S_slice HO413.out; subst eo23) | ((with_reducible refine gC 43 ?_); refine cL (some 33) Try.func43 #[.slice Ao20 t407.length co20, .slice Ao23 t411.length co23] ?_; (with_reducible refine (laws_eqObjectS.calls k _ _ t407 _ _ t411 true _ ?side1 ?side2 ?side3 ?side4 A13.out).mono ?_); (case side1 => exact cS (Kd.S_reads' HO409.out).2.2); (case side2 => exact (Kd.S_reads' HO409.out).2.1); (case side3 => exact cS (Kd.S_reads' HO413.out).2.2); (case side4 => exact (Kd.S_reads' HO413.out).2.1); rintro e w24 ⟨rfl, hb⟩; refine ⟨_, rfl, ?_⟩; replace HO405 := Aside0.mk (Kd.S_below (by (with_reducible repeat (first | apply Kd.S_alloc | apply Kd.S_drewN | apply Kd.S_drew)); exact HO405.out) hb); replace HO409 := Aside0.mk (Kd.S_below (by (with_reducible repeat (first | apply Kd.S_alloc | apply Kd.S_drewN | apply Kd.S_drew)); exact HO409.out) hb); replace HO413 := Aside0.mk (Kd.S_below (by (with_reducible repeat (first | apply Kd.S_alloc | apply Kd.S_drewN | apply Kd.S_drew)); exact HO413.out) hb); replace HB := hB hb; (try clear hb); (try clear hb2); (try clear hk); (try clear hi)))
        go_ret
        exact ⟨eS, bS⟩
      · obtain rfl := Bool.eq_false_iff.mpr c14
        rw [if_neg nF] at H
        obtain rfl := Option.some.inj H
        go_enter Try.func7, Try.ntmps7
        go_wp2_with (first | ((with_reducible refine gC 39 ?_); refine cL (some 13) Try.func39 #[.slice A0 l0.length c0, .int .i64 1048576] ?_; (with_reducible refine (laws_szObjectS.calls k _ _ l0 1048576 t402 _ ?side1 ?side2 A4.out).mono ?_); (case side1 => repeat (first | exact HR0.out | (with_reducible refine Kd.C_alloc ?_ _) | (with_reducible refine Kd.C_drewN ?_ _) | (with_reducible refine Kd.C_drew ?_))); (case side2 => exact HC0.out); rintro e w25 ⟨rfl, hb⟩; refine ⟨_, rfl, ?_⟩; replace HB := hB hb; (try clear hb); (try clear hb2); (try clear hk); (try clear hi)) | ((with_reducible refine gC 41 ?_); refine cL (some 17) Try.func41 #[.slice A0 l0.length c0] ?_; (with_reducible refine (laws_toObjectS.calls k _ _ l0 t403 _ ?side1 ?side2 A7.out).mono ?_); (case side1 => exact cS (Kd.C_below HR0.out HB.out)); (case side2 => exact HC0.out); rintro e w26 ⟨v404, rfl, ho0, hb⟩; refine ⟨_, rfl, ?_⟩; have HO405 := Aside0.mk (Kd.S_lower ho0 (below_size bS)); replace HB := hB hb; (try clear hb); (try clear hb2); (try clear hk); (try clear hi); (try clear ho0); obtain ⟨Ao27, co27, eo27⟩ := Kd.S_slice HO405.out; subst eo27) | ((with_reducible refine gC 40 ?_); refine cL (some 20) Try.func40 #[.slice Ao27 t403.length co27, .int .i64 a1, .int .i64 a2] ?_; (with_reducible refine (spec_BandTime.calls k _ _ t403 a1 a2 t406 _ ?side1 ?side2 A8.out).mono ?_); (case side1 => exact cS (Kd.S_reads' HO405.out).2.2); (case side2 => exact (Kd.S_reads' HO405.out).2.1); rintro e w28 ⟨rfl, hb⟩; refine ⟨_, rfl, ?_⟩; replace HO405 := Aside0.mk (Kd.S_below (by (with_reducible repeat (first | apply Kd.S_alloc | apply Kd.S_drewN | apply Kd.S_drew)); exact HO405.out) hb); replace HB := hB hb; (try clear hb); (try clear hb2); (try clear hk); (try clear hi)) | ((with_reducible refine gC 41 ?_); refine cL (some 22) Try.func41 #[.slice A0 l0.length c0] ?_; (with_reducible refine (laws_toObjectS.calls k _ _ l0 t407 _ ?side1 ?side2 A9.out).mono ?_); (case side1 => exact cS (Kd.C_below HR0.out HB.out)); (case side2 => exact HC0.out); rintro e w29 ⟨v408, rfl, ho0, hb⟩; refine ⟨_, rfl, ?_⟩; have HO409 := Aside0.mk (Kd.S_lower (Kd.S_new' ho0 (Kd.S_lt (by (with_reducible repeat (first | apply Kd.S_alloc | apply Kd.S_drewN | apply Kd.S_drew)); exact HO405.out))) (below_size bS)); replace HO405 := Aside0.mk (Kd.S_elder' (by (with_reducible repeat (first | apply Kd.S_alloc | apply Kd.S_drewN | apply Kd.S_drew)); exact HO405.out) (Kd.S_base ho0) hb); replace HB := hB hb; (try clear hb); (try clear hb2); (try clear hk); (try clear hi); (try clear ho0); obtain ⟨Ao30, co30, eo30⟩ := Kd.S_slice HO409.out; subst eo30) | ((with_reducible refine gC 42 ?_); refine cL (some 26) Try.func42 #[.slice Ao30 t407.length co30, .int .i64 a1, .int .i64 a2] ?_; (with_reducible refine (impl_BandTime.calls k _ _ t407 a1 a2 t410 _ ?side1 ?side2 A10.out).mono ?_); (case side1 => exact cS (Kd.S_reads' HO409.out).2.2); (case side2 => exact (Kd.S_reads' HO409.out).2.1); rintro e w31 ⟨rfl, hb⟩; refine ⟨_, rfl, ?_⟩; replace HO405 := Aside0.mk (Kd.S_below (by (with_reducible repeat (first | apply Kd.S_alloc | apply Kd.S_drewN | apply Kd.S_drew)); exact HO405.out) hb); replace HO409 := Aside0.mk (Kd.S_below (by (with_reducible repeat (first | apply Kd.S_alloc | apply Kd.S_drewN | apply Kd.S_drew)); exact HO409.out) hb); replace HB := hB hb; (try clear hb); (try clear hb2); (try clear hk); (try clear hi)) | ((with_reducible refine gC 41 ?_); refine cL (some 32) Try.func41 #[.slice A0 l0.length c0] ?_; (with_reducible refine (laws_toObjectS.calls k _ _ l0 t411 _ ?side1 ?side2 A12.out).mono ?_); (case side1 => exact cS (Kd.C_below HR0.out HB.out)); (case side2 => exact HC0.out); rintro e w32 ⟨v412, rfl, ho0, hb⟩; refine ⟨_, rfl, ?_⟩; have HO413 := Aside0.mk (Kd.S_lower (Kd.S_new' (Kd.S_new' ho0 (Kd.S_lt (by (with_reducible repeat (first | apply Kd.S_alloc | apply Kd.S_drewN | apply Kd.S_drew)); exact HO405.out))) (Kd.S_lt (by (with_reducible repeat (first | apply Kd.S_alloc | apply Kd.S_drewN | apply Kd.S_drew)); exact HO409.out))) (below_size bS)); replace HO405 := Aside0.mk (Kd.S_elder' (by (with_reducible repeat (first | apply Kd.S_alloc | apply Kd.S_drewN | apply Kd.S_drew)); exact HO405.out) (Kd.S_base ho0) hb); replace HO409 := Aside0.mk (Kd.S_elder' (by (with_reducible repeat (first | apply Kd.S_alloc | apply Kd.S_drewN | apply Kd.S_drew)); exact HO409.out) (Kd.S_base ho0) hb); replace HB := hB hb; (try clear hb); (try clear hb2); (try clear hk); (try clear hi); (try clear ho0); obtain ⟨Ao33, co33, eo33⟩ := Kd.S_slice HO413.out; subst eo33) | ((with_reducible refine gC 43 ?_); refine cL (some 33) Try.func43 #[.slice Ao30 t407.length co30, .slice Ao33 t411.length co33] ?_; (with_reducible refine (laws_eqObjectS.calls k _ _ t407 _ _ t411 false _ ?side1 ?side2 ?side3 ?side4 A13.out).mono ?_); (case side1 => exact cS (Kd.S_reads' HO409.out).2.2); (case side2 => exact (Kd.S_reads' HO409.out).2.1); (case side3 => exact cS (Kd.S_reads' HO413.out).2.2); (case side4 => exact (Kd.S_reads' HO413.out).2.1); rintro e w34 ⟨rfl, hb⟩; refine ⟨_, rfl, ?_⟩; replace HO405 := Aside0.mk (Kd.S_below (by (with_reducible repeat (first | apply Kd.S_alloc | apply Kd.S_drewN | apply Kd.S_drew)); exact HO405.out) hb); replace HO409 := Aside0.mk (Kd.S_below (by (with_reducible repeat (first | apply Kd.S_alloc | apply Kd.S_drewN | apply Kd.S_drew)); exact HO409.out) hb); replace HO413 := Aside0.mk (Kd.S_below (by (with_reducible repeat (first | apply Kd.S_alloc | apply Kd.S_drewN | apply Kd.S_drew)); exact HO413.out) hb); replace HB := hB hb; (try clear hb); (try clear hb2); (try clear hk); (try clear hi)))
        go_ret
        exact ⟨eS, bS⟩
    · rw [if_neg c11] at H
      have c11b0 : (t410 == t406) = false := beq_eq_false_iff_ne.mpr c11
      have c11b1 : (t410 != t406) = true := bne_iff_ne.mpr c11
      obtain rfl := Option.some.inj H
      go_enter Try.func7, Try.ntmps7
      go_wp2_with (first | ((with_reducible refine gC 39 ?_); refine cL (some 13) Try.func39 #[.slice A0 l0.length c0, .int .i64 1048576] ?_; (with_reducible refine (laws_szObjectS.calls k _ _ l0 1048576 t402 _ ?side1 ?side2 A4.out).mono ?_); (case side1 => repeat (first | exact HR0.out | (with_reducible refine Kd.C_alloc ?_ _) | (with_reducible refine Kd.C_drewN ?_ _) | (with_reducible refine Kd.C_drew ?_))); (case side2 => exact HC0.out); rintro e w35 ⟨rfl, hb⟩; refine ⟨_, rfl, ?_⟩; replace HB := hB hb; (try clear hb); (try clear hb2); (try clear hk); (try clear hi)) | ((with_reducible refine gC 41 ?_); refine cL (some 17) Try.func41 #[.slice A0 l0.length c0] ?_; (with_reducible refine (laws_toObjectS.calls k _ _ l0 t403 _ ?side1 ?side2 A7.out).mono ?_); (case side1 => exact cS (Kd.C_below HR0.out HB.out)); (case side2 => exact HC0.out); rintro e w36 ⟨v404, rfl, ho0, hb⟩; refine ⟨_, rfl, ?_⟩; have HO405 := Aside0.mk (Kd.S_lower ho0 (below_size bS)); replace HB := hB hb; (try clear hb); (try clear hb2); (try clear hk); (try clear hi); (try clear ho0); obtain ⟨Ao37, co37, eo37⟩ := Kd.S_slice HO405.out; subst eo37) | ((with_reducible refine gC 40 ?_); refine cL (some 20) Try.func40 #[.slice Ao37 t403.length co37, .int .i64 a1, .int .i64 a2] ?_; (with_reducible refine (spec_BandTime.calls k _ _ t403 a1 a2 t406 _ ?side1 ?side2 A8.out).mono ?_); (case side1 => exact cS (Kd.S_reads' HO405.out).2.2); (case side2 => exact (Kd.S_reads' HO405.out).2.1); rintro e w38 ⟨rfl, hb⟩; refine ⟨_, rfl, ?_⟩; replace HO405 := Aside0.mk (Kd.S_below (by (with_reducible repeat (first | apply Kd.S_alloc | apply Kd.S_drewN | apply Kd.S_drew)); exact HO405.out) hb); replace HB := hB hb; (try clear hb); (try clear hb2); (try clear hk); (try clear hi)) | ((with_reducible refine gC 41 ?_); refine cL (some 22) Try.func41 #[.slice A0 l0.length c0] ?_; (with_reducible refine (laws_toObjectS.calls k _ _ l0 t407 _ ?side1 ?side2 A9.out).mono ?_); (case side1 => exact cS (Kd.C_below HR0.out HB.out)); (case side2 => exact HC0.out); rintro e w39 ⟨v408, rfl, ho0, hb⟩; refine ⟨_, rfl, ?_⟩; have HO409 := Aside0.mk (Kd.S_lower (Kd.S_new' ho0 (Kd.S_lt (by (with_reducible repeat (first | apply Kd.S_alloc | apply Kd.S_drewN | apply Kd.S_drew)); exact HO405.out))) (below_size bS)); replace HO405 := Aside0.mk (Kd.S_elder' (by (with_reducible repeat (first | apply Kd.S_alloc | apply Kd.S_drewN | apply Kd.S_drew)); exact HO405.out) (Kd.S_base ho0) hb); replace HB := hB hb; (try clear hb); (try clear hb2); (try clear hk); (try clear hi); (try clear ho0); obtain ⟨Ao40, co40, eo40⟩ := Kd.S_slice HO409.out; subst eo40) | ((with_reducible refine gC 42 ?_); refine cL (some 26) Try.func42 #[.slice Ao40 t407.length co40, .int .i64 a1, .int .i64 a2] ?_; (with_reducible refine (impl_BandTime.calls k _ _ t407 a1 a2 t410 _ ?side1 ?side2 A10.out).mono ?_); (case side1 => exact cS (Kd.S_reads' HO409.out).2.2); (case side2 => exact (Kd.S_reads' HO409.out).2.1); rintro e w41 ⟨rfl, hb⟩; refine ⟨_, rfl, ?_⟩; replace HO405 := Aside0.mk (Kd.S_below (by (with_reducible repeat (first | apply Kd.S_alloc | apply Kd.S_drewN | apply Kd.S_drew)); exact HO405.out) hb); replace HO409 := Aside0.mk (Kd.S_below (by (with_reducible repeat (first | apply Kd.S_alloc | apply Kd.S_drewN | apply Kd.S_drew)); exact HO409.out) hb); replace HB := hB hb; (try clear hb); (try clear hb2); (try clear hk); (try clear hi)))
      go_ret
      exact ⟨eS, bS⟩

end Go.Proofs.Ytigodjcnkgebaaa.QFnExactBandTime
