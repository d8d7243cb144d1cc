-- Made out of the translation by a program of this session (a changed copy of the print). Not trusted: Lean checks it.
import Derived.Test.YtigodjcnkgebaaaQFnExactPaintObjectx0
import Derived.Test.YtigodjcnkgebaaaQFnExactPaintObjectx1
import Derived.Test.YtigodjcnkgebaaaQFnExactPaintObjectx2
import Derived.Test.YtigodjcnkgebaaaQFnExactPaintObjectx7
import Derived.Test.YtigodjcnkgebaaaQFnExactPaintObjectx13
import Derived.Test.YtigodjcnkgebaaaQFnExactPaintObjectx14
namespace Go.Proofs.Ytigodjcnkgebaaa.QFnExactPaintObject
open Go.RowKit Go.Proofs.YtigodjcnkgebaaaW.PrintWords Go.Proofs.YtigodjcnkgebaaaW.PrintLast Go.Proofs.YtigodjcnkgebaaaW.PrintMore
attribute [local go_sem] max2_int min2_int max_two min_two max_three min_three max_four min_four   -- for this text's walks alone
set_option linter.unusedVariables false
set_option linter.unusedSimpArgs false
set_option maxHeartbeats 8000000
set_option maxRecDepth 100000

/-! ### laws_FnExactPaintObject: function 9 -/
def laws_FnExactPaintObject.f (k : Nat) (l0 : List (List Int)) (a1 : Int) (l2_0 : List (S173)) (a2_1 : Int) (a2_2 : Int) (a2_3 : Int) (a2_4 : Int) (a2_5 : Int) : Option (Bool) := (laws_szIntSS.f k l0 1048576).bind fun t437 => (if t437 < 0 then (some true) else ((laws_szObject.f l2_0 a2_1 a2_2 a2_3 a2_4 a2_5 t437).bind fun t438 => (if t438 < 0 then (some true) else ((laws_toIntSS.f k l0).bind fun t439 => ((laws_toObject.f k l2_0 a2_1 a2_2 a2_3 a2_4 a2_5).bind fun bt442 => ((spec_PaintObject.f k t439 a1 bt442.1 bt442.2.1 bt442.2.2.1 bt442.2.2.2.1 bt442.2.2.2.2.1 bt442.2.2.2.2.2).bind fun bt450 => ((laws_toIntSS.f k l0).bind fun t454 => ((laws_toObject.f k l2_0 a2_1 a2_2 a2_3 a2_4 a2_5).bind fun bt457 => ((impl_PaintObject.f k t454 a1 bt457.1 bt457.2.1 bt457.2.2.1 bt457.2.2.2.1 bt457.2.2.2.2.1 bt457.2.2.2.2.2).bind fun bt466 => ((laws_eqIntSS.f k bt466.1 bt450.1).bind fun t470 => (if t470 = true then (if (bt466.2 != bt450.2) = true then (some false) else ((laws_toIntSS.f k l0).bind fun t471 => ((laws_eqIntSS.f k t454 t471).bind fun t474 => (if t474 = true then ((laws_toObject.f k l2_0 a2_1 a2_2 a2_3 a2_4 a2_5).bind fun bt475 => ((laws_eqObject.f k bt457.1 bt457.2.1 bt457.2.2.1 bt457.2.2.2.1 bt457.2.2.2.2.1 bt457.2.2.2.2.2 bt475.1 bt475.2.1 bt475.2.2.1 bt475.2.2.2.1 bt475.2.2.2.2.1 bt475.2.2.2.2.2).bind fun t483 => (if t483 = true then ((laws_markIntSS.f k t454 1).bind fun bt484 => ((laws_markObject.f k bt457.1 bt457.2.1 bt457.2.2.1 bt457.2.2.2.1 bt457.2.2.2.2.1 bt457.2.2.2.2.2 bt484.1).bind fun bt486 => (if bt486.1 < 0 then (some false) else ((laws_eqIntSS.f k bt466.1 bt450.1).bind fun t488 => (if t488 = true then ((laws_markIntSS.f k bt466.1 1).bind fun bt489 => ((laws_heldIntSS.f k bt489.2 1).bind fun t491 => (if t491 < 0 then (some false) else (if t491 = bt489.1 then ((laws_toIntSS.f k l0).bind fun t492 => ((laws_toObject.f k l2_0 a2_1 a2_2 a2_3 a2_4 a2_5).bind fun bt495 => ((impl_PaintObject.f k t492 a1 bt495.1 bt495.2.1 bt495.2.2.1 bt495.2.2.2.1 bt495.2.2.2.2.1 bt495.2.2.2.2.2).bind fun bt503 => ((laws_eqIntSS.f k bt503.1 bt450.1).bind fun t507 => (if t507 = true then (if (bt503.2 != bt450.2) = true then (some false) else ((laws_heldIntSS.f k bt489.2 1).bind fun t508 => (if t508 < 0 then (some false) else (if t508 = bt489.1 then (some true) else (some false))))) else (some false)))))) else (some false))))) else (some false)))))) else (some false)))) else (some false))))) else (some false))))))))))))
def laws_FnExactPaintObject.T8 : Bool × List (List Nat × List Nat) := (true, [([], []), ([0], [0]), ([], []), ([], []), ([3, 1], [3]), ([1, 2, 4, 4], [1, 2, 4]), ([5], [5]), ([6], [6]), ([6], [6]), ([7, 5, 0, 1, 2, 3, 4, 5, 6, 7], [7]), ([8, 9, 0, 1, 2, 3, 4, 5, 6, 7, 8, 9], [8])])
def laws_FnExactPaintObject.B8 : List Nat := [0, 1, 0, 0, 11, 31, 63, 127, 127, 255, 1023]
theorem laws_FnExactPaintObject.tab8 : rtab .any (opsOf Try.f9 8) = laws_FnExactPaintObject.T8 := by kernel_rfl
theorem laws_FnExactPaintObject.bits8 : waitsOk laws_FnExactPaintObject.T8.2 laws_FnExactPaintObject.B8 = true := by kernel_rfl
def laws_FnExactPaintObject.T31 : Bool × List (List Nat × List Nat) := (true, [([], []), ([0], [0]), ([], []), ([], []), ([3, 1], [3]), ([1, 2, 4, 4], [1, 2, 4]), ([5], [5]), ([6], [6]), ([6], [6]), ([7, 5, 0, 1, 2, 3, 4, 5, 6, 7], [7]), ([8, 9, 0, 1, 2, 3, 4, 5, 6, 7, 8, 9], [8])])
def laws_FnExactPaintObject.B31 : List Nat := [0, 1, 0, 0, 11, 31, 63, 127, 127, 255, 1023]
theorem laws_FnExactPaintObject.tab31 : rtab .any (opsOf Try.f9 31) = laws_FnExactPaintObject.T31 := by kernel_rfl
theorem laws_FnExactPaintObject.bits31 : waitsOk laws_FnExactPaintObject.T31.2 laws_FnExactPaintObject.B31 = true := by kernel_rfl
theorem laws_FnExactPaintObject.lf0 {p : Prop} (h : p := by
  go_enter Try.func9, Try.ntmps9
  go_wp2_with (first | ((with_reducible refine gD 5 ?_); refine bxE #[.slice A2_0 l2_0.length c2_0, .int .i64 a2_1, .int .i64 a2_2, .int .i64 a2_3, .int .i64 a2_4, .int .i64 a2_5] 38 ?_; intro gb436 hg w9 BK436 hb; have GW436 := gE hg; have GE436 := gE hg; replace HB := hB hb; clear hb hg) | ((with_reducible refine gC 50 ?_); refine cL (some 21) Try.func50 #[.slice A0 l0.length c0, .int .i64 1048576] ?_; (with_reducible refine (laws_szIntSS.calls k _ _ l0 1048576 t437 _ ?side1 ?side2 A4.out).mono ?_); (case side1 => exact cS (Kd.C_below HR0.out HB.out)); (case side2 => exact HC0.out); rintro e w' ⟨rfl, ⟨nd, rfl⟩⟩; refine ⟨_, rfl, ?_⟩; have hz10 := cz6 BK436) | ((with_reducible refine gC 23 ?_); refine cL (some 26) Try.func23 #[.agg #[.slice A2_0 l2_0.length c2_0, .int .i64 a2_1, .int .i64 a2_2, .int .i64 a2_3, .int .i64 a2_4, .int .i64 a2_5], .int .i64 t437] ?_; (with_reducible refine (laws_szObject.calls _ _ l2_0 a2_1 a2_2 a2_3 a2_4 a2_5 t437 t438 _ ?side1 ?side2 A7.out).mono ?_); (case side1 => exact cS (Kd.C_below HR2_0.out bS)); (case side2 => exact HC2_0.out); rintro e w11 ⟨rfl, hb⟩; refine ⟨_, rfl, ?_⟩; replace BK436 := kB (g := gb436) hb; replace HB := hB hb; (try clear hb); (try clear hb2); (try clear hk); (try clear hi)))
  go_ret
  exact ⟨eS, bS⟩) : p := h
theorem laws_FnExactPaintObject.lf1 {p : Prop} (h : p := by
  go_enter Try.func9, Try.ntmps9
  try go_wp2_with (first | ((with_reducible refine gD 5 ?_); refine bxE #[.slice A2_0 l2_0.length c2_0, .int .i64 a2_1, .int .i64 a2_2, .int .i64 a2_3, .int .i64 a2_4, .int .i64 a2_5] 38 ?_; intro gb436 hg w394 BK436 hb; have GW436 := gE hg; have GE436 := gE hg; replace HB := hB hb; clear hb hg) | ((with_reducible refine gC 50 ?_); refine cL (some 21) Try.func50 #[.slice A0 l0.length c0, .int .i64 1048576] ?_; (with_reducible refine (laws_szIntSS.calls k _ _ l0 1048576 t437 _ ?side1 ?side2 A4.out).mono ?_); (case side1 => exact cS (Kd.C_below HR0.out HB.out)); (case side2 => exact HC0.out); rintro e w' ⟨rfl, ⟨nd, rfl⟩⟩; refine ⟨_, rfl, ?_⟩; (try (rw [drewN_self w394]; generalize hq_ : World.drewN w394 _ = w394; replace BK436 : Aside0 (w394.heap[gb436]? = some (.cells #[.slice A2_0 l2_0.length c2_0, .int .i64 a2_1, .int .i64 a2_2, .int .i64 a2_3, .int .i64 a2_4, .int .i64 a2_5] 38 (0, 0))) := ⟨by rw [← hq_]; exact kS⟩; replace HB : Aside0 (Below w.heap.size w w394) := ⟨by rw [← hq_]; exact bS⟩; clear hq_)); have hz395 := cz6 BK436) | ((with_reducible refine gC 23 ?_); refine cL (some 26) Try.func23 #[.agg #[.slice A2_0 l2_0.length c2_0, .int .i64 a2_1, .int .i64 a2_2, .int .i64 a2_3, .int .i64 a2_4, .int .i64 a2_5], .int .i64 t437] ?_; (with_reducible refine (laws_szObject.calls _ _ l2_0 a2_1 a2_2 a2_3 a2_4 a2_5 t437 t438 _ ?side1 ?side2 A7.out).mono ?_); (case side1 => exact cS (Kd.C_below HR2_0.out HB.out)); (case side2 => exact HC2_0.out); rintro e w396 ⟨rfl, hb⟩; refine ⟨_, rfl, ?_⟩; replace BK436 := kB (g := gb436) hb; replace HB := hB hb; (try clear hb); (try clear hb2); (try clear hk); (try clear hi)))
  replace BK436 := Aside0.mk (blk_drew BK436.out)
  replace HB := Aside0.mk (below_drew1 HB.out)
  refine start_ (n := 11) (S := fun w' => w'.cell? ⟨gb436, 0, none⟩ = some (.slice A2_0 l2_0.length c2_0) ∧ w'.cell? ⟨gb436, 1, none⟩ = some (.int .i64 a2_1) ∧ w'.cell? ⟨gb436, 2, none⟩ = some (.int .i64 a2_2) ∧ w'.cell? ⟨gb436, 3, none⟩ = some (.int .i64 a2_3) ∧ w'.cell? ⟨gb436, 4, none⟩ = some (.int .i64 a2_4) ∧ w'.cell? ⟨gb436, 5, none⟩ = some (.int .i64 a2_5)) (ds := []) #[false, false, false, false, false, false, false, false, false, false, false] (by kernel_rfl) rfl rfl ⟨(blk_cell BK436.out 0).trans rfl, (blk_cell BK436.out 1).trans rfl, (blk_cell BK436.out 2).trans rfl, (blk_cell BK436.out 3).trans rfl, (blk_cell BK436.out 4).trans rfl, (blk_cell BK436.out 5).trans rfl⟩ (fun hHeld => ?_); refine with_tabW laws_FnExactPaintObject.tab8 laws_FnExactPaintObject.bits8 (fun HT_ HW_ => ?_)
  generalize w396.drew = w397 at BK436 HB hHeld ⊢
  refine pure_ (i := 0) (N := some 30) (v := ?_) (a' := ?_) #[true, false, false, false, false, false, false, false, false, false, false] rfl rfl (any_of HT_.out (by kernel_rfl)) (fun _ _ _ h => h) (Or.inl ⟨by rfl, ?_⟩) ?_ ?_
  rotate_left
  · intro w'
    go_simp
    with_reducible rfl
  rotate_left
  · simp only [Act.put, List.setIfInBounds_toArray, List.set_cons_zero, List.set_cons_succ, i64_w, i32_w]
    rfl
  refine pure_ (i := 2) (N := some 32) (v := ?_) (a' := ?_) #[true, false, true, false, false, false, false, false, false, false, false] rfl rfl (any_of HT_.out (by kernel_rfl)) (fun _ _ _ h => h) (Or.inl ⟨by rfl, ?_⟩) ?_ ?_
  rotate_left
  · intro w'
    go_simp
    with_reducible rfl
  rotate_left
  · simp only [Act.put, List.setIfInBounds_toArray, List.set_cons_zero, List.set_cons_succ, i64_w, i32_w]
    rfl
  refine take_ (i := 3) (N := some 33) (v := ?_) (a' := ?_) #[true, false, true, true, false, false, false, false, false, false, false] rfl rfl (take_ofW HT_.out HW_.out (by kernel_rfl)) (fun _ _ _ h => h) (Or.inl ⟨by rfl, ?_⟩) hHeld ?_ ?_
  rotate_left
  · rintro w' ⟨s0, s1, s2, s3, s4, s5⟩
    go_simp
    with_reducible rfl
  rotate_left
  · simp only [Act.put, List.setIfInBounds_toArray, List.set_cons_zero, List.set_cons_succ, i64_w, i32_w]
    rfl
  refine one_ (i := 1) (N := some 31) #[true, true, true, true, false, false, false, false, false, false, false] rfl rfl (one_of HT_.out (by kernel_rfl)) (by decide) (fun K hK => ?_)
  refine goes_ Try.func52 (by kernel_rfl) rfl #[.slice A0 l0.length c0] (by rfl) rfl rfl (by (try simp only [List.map_toArray, List.map_cons, List.map_nil]); first | done | rfl | (simp only [List.length_drop, List.length_take]; rfl)) ?_
  with_reducible refine (laws_toIntSS.calls k _ _ l0 t439 _ ?side1 ?side2 A12.out).mono ?_
  (case side1 => exact cS (Kd.C_below HR0.out HB.out))
  (case side2 => exact HC0.out)
  rintro e w398 ⟨v440, rfl, ho0, hb⟩
  refine ⟨_, rfl, ?_⟩
  obtain ⟨b441, HZ441, hz441⟩ := S_born ho0
  have HL441 := Aside0.mk (show w.heap.size ≤ b441 from by rw [HZ441.out]; exact (below_size bS))
  have HO441 := Aside0.mk (hz441)
  replace BK436 := kB (g := gb436) hb
  replace HB := hB hb
  (try clear hb)
  (try clear hb2)
  (try clear hk)
  (try clear hi)
  (try clear ho0)
  refine hK.out _ _ ⟨(blk_cell BK436.out 0).trans rfl, (blk_cell BK436.out 1).trans rfl, (blk_cell BK436.out 2).trans rfl, (blk_cell BK436.out 3).trans rfl, (blk_cell BK436.out 4).trans rfl, (blk_cell BK436.out 5).trans rfl⟩ (fun hHeld => ?_)
  clear hK K
  refine norm_ (a' := ?_) ?_ ?_
  rotate_left
  · show Act.put _ (some 31) _ = _
    simp only [Act.put, List.setIfInBounds_toArray, List.set_cons_zero, List.set_cons_succ, i64_w, i32_w]
    rfl
  refine one_ (i := 4) (N := some 34) #[true, true, true, true, true, false, false, false, false, false, false] rfl rfl (one_of HT_.out (by kernel_rfl)) (by decide) (fun K hK => ?_)
  refine goes_ Try.func25 (by kernel_rfl) rfl #[.agg #[.slice A2_0 l2_0.length c2_0, .int .i64 a2_1, .int .i64 a2_2, .int .i64 a2_3, .int .i64 a2_4, .int .i64 a2_5]] (by rfl) rfl rfl (by (try simp only [List.map_toArray, List.map_cons, List.map_nil]); first | done | rfl | (simp only [List.length_drop, List.length_take]; rfl)) ?_
  with_reducible refine (laws_toObject.calls k _ _ l2_0 a2_1 a2_2 a2_3 a2_4 a2_5 t442 t445 t446 t447 t448 t449 _ ?side1 ?side2 A13.out).mono ?_
  (case side1 => exact cS (Kd.C_below HR2_0.out HB.out))
  (case side2 => exact HC2_0.out)
  rintro e w399 ⟨v443, rfl, ho0, hb⟩
  refine ⟨_, rfl, ?_⟩
  obtain ⟨b444, HZ444, hz444⟩ := R_born ho0
  have HL444 := Aside0.mk (show w.heap.size ≤ b444 from by rw [HZ444.out]; exact (below_size bS))
  have HO444 := Aside0.mk (hz444)
  replace HO441 := Aside0.mk (S_oldB (by (with_reducible repeat (first | apply Kd.S_alloc | apply Kd.S_drewN | apply Kd.S_drew)); exact HO441.out) hb HZ444.out)
  replace BK436 := kB (g := gb436) hb
  replace HB := hB hb
  (try clear hb)
  (try clear hb2)
  (try clear hk)
  (try clear hi)
  (try clear ho0)
  obtain ⟨Ao400, co400, eo400⟩ := Kd.S_slice HO441.out
  (first | subst eo400 | (injection eo400 with f1_ f2_ f3_; have f4_ := f1_.symm; have f5_ := f3_.symm; clear f1_ f2_ f3_; subst f4_; subst f5_))
  obtain ⟨Ao401, co401, eo401⟩ := Kd.R_slice HO444.out
  (first | subst eo401 | (injection eo401 with f1_ f2_ f3_; have f4_ := f1_.symm; have f5_ := f3_.symm; clear f1_ f2_ f3_; subst f4_; subst f5_))
  refine hK.out _ _ ⟨(blk_cell BK436.out 0).trans rfl, (blk_cell BK436.out 1).trans rfl, (blk_cell BK436.out 2).trans rfl, (blk_cell BK436.out 3).trans rfl, (blk_cell BK436.out 4).trans rfl, (blk_cell BK436.out 5).trans rfl⟩ (fun hHeld => ?_)
  clear hK K
  refine norm_ (a' := ?_) ?_ ?_
  rotate_left
  · show Act.put _ (some 34) _ = _
    simp only [Act.put, List.setIfInBounds_toArray, List.set_cons_zero, List.set_cons_succ, i64_w, i32_w]
    rfl
  refine one_ (i := 5) (N := some 35) #[true, true, true, true, true, true, false, false, false, false, false] rfl rfl (one_of HT_.out (by kernel_rfl)) (by decide) (fun K hK => ?_)
  refine goes_ Try.func51 (by kernel_rfl) rfl #[.slice Ao400 t439.length co400, .int .i64 a1, .agg #[.slice Ao401 t442.length co401, .int .i64 t445, .int .i64 t446, .int .i64 t447, .int .i64 t448, .int .i64 t449]] (by rfl) rfl rfl (by (try simp only [List.map_toArray, List.map_cons, List.map_nil]); first | done | rfl | (simp only [List.length_drop, List.length_take]; rfl)) ?_
  with_reducible refine (spec_PaintObject.calls k _ _ t439 a1 _ _ t442 t445 t446 t447 t448 t449 t450 t453 _ ?side1 ?side2 ?side3 ?side4 A14.out).mono ?_
  (case side1 => exact cS (Kd.S_reads' HO441.out).2.2)
  (case side2 => exact (Kd.S_reads' HO441.out).2.1)
  (case side3 => exact cS (Kd.R_reads' HO444.out).2.2)
  (case side4 => exact (Kd.R_reads' HO444.out).2.1)
  rintro e w402 ⟨v451, rfl, ho0, hb⟩
  refine ⟨_, rfl, ?_⟩
  obtain ⟨b452, HZ452, hz452⟩ := S_born ho0
  have HL452 := Aside0.mk (show w.heap.size ≤ b452 from by rw [HZ452.out]; exact (below_size bS))
  have HO452 := Aside0.mk (hz452)
  replace HO441 := Aside0.mk (S_oldB (by (with_reducible repeat (first | apply Kd.S_alloc | apply Kd.S_drewN | apply Kd.S_drew)); exact HO441.out) hb HZ452.out)
  replace HO444 := Aside0.mk (R_oldB (rS HO444) hb HZ452.out)
  replace BK436 := kB (g := gb436) hb
  replace HB := hB hb
  (try clear hb)
  (try clear hb2)
  (try clear hk)
  (try clear hi)
  (try clear ho0)
  refine hK.out _ _ ⟨(blk_cell BK436.out 0).trans rfl, (blk_cell BK436.out 1).trans rfl, (blk_cell BK436.out 2).trans rfl, (blk_cell BK436.out 3).trans rfl, (blk_cell BK436.out 4).trans rfl, (blk_cell BK436.out 5).trans rfl⟩ (fun hHeld => ?_)
  clear hK K
  refine norm_ (a' := ?_) ?_ ?_
  rotate_left
  · show Act.put _ (some 35) _ = _
    simp only [Act.put, List.setIfInBounds_toArray, List.set_cons_zero, List.set_cons_succ, i64_w, i32_w]
    rfl
  refine pure_ (i := 6) (N := some 29) (v := ?_) (a' := ?_) #[true, true, true, true, true, true, true, false, false, false, false] rfl rfl (any_of HT_.out (by kernel_rfl)) (fun _ _ _ h => h) (Or.inl ⟨by rfl, ?_⟩) ?_ ?_
  rotate_left
  · intro w'
    go_simp
    with_reducible rfl
  rotate_left
  · simp only [Act.put, List.setIfInBounds_toArray, List.set_cons_zero, List.set_cons_succ, i64_w, i32_w]
    rfl
  refine pure_ (i := 7) (N := some 36) (v := ?_) (a' := ?_) #[true, true, true, true, true, true, true, true, false, false, false] rfl rfl (any_of HT_.out (by kernel_rfl)) (fun _ _ _ h => h) (Or.inl ⟨by rfl, ?_⟩) ?_ ?_
  rotate_left
  · intro w'
    go_simp
    with_reducible rfl
  rotate_left
  · simp only [Act.put, List.setIfInBounds_toArray, List.set_cons_zero, List.set_cons_succ, i64_w, i32_w]
    rfl
  refine pure_ (i := 8) (N := some 37) (v := ?_) (a' := ?_) #[true, true, true, true, true, true, true, true, true, false, false] rfl rfl (any_of HT_.out (by kernel_rfl)) (fun _ _ _ h => h) (Or.inl ⟨by rfl, ?_⟩) ?_ ?_
  rotate_left
  · intro w'
    go_simp
    with_reducible rfl
  rotate_left
  · simp only [Act.put, List.setIfInBounds_toArray, List.set_cons_zero, List.set_cons_succ, i64_w, i32_w]
    rfl
  refine pure_ (i := 9) (N := some 8) (v := ?_) (a' := ?_) #[true, true, true, true, true, true, true, true, true, true, false] rfl rfl (any_of HT_.out (by kernel_rfl)) (fun _ _ _ h => h) (Or.inl ⟨by rfl, ?_⟩) ?_ ?_
  rotate_left
  · intro w'
    go_simp
    with_reducible rfl
  rotate_left
  · simp only [Act.put, List.setIfInBounds_toArray, List.set_cons_zero, List.set_cons_succ, i64_w, i32_w]
    rfl
  refine pure_ (i := 10) (N := some 9) (v := ?_) (a' := ?_) #[true, true, true, true, true, true, true, true, true, true, true] rfl rfl (any_of HT_.out (by kernel_rfl)) (fun _ _ _ h => h) (Or.inl ⟨by rfl, ?_⟩) ?_ ?_
  rotate_left
  · intro w'
    go_simp
    with_reducible rfl
  rotate_left
  · simp only [Act.put, List.setIfInBounds_toArray, List.set_cons_zero, List.set_cons_succ, i64_w, i32_w]
    rfl
  refine done_ (done_of HT_.out (by kernel_rfl)) ?_
  try go_wp2_with (first | ((with_reducible refine gC 52 ?_); refine cL (some 39) Try.func52 #[.slice A0 l0.length c0] ?_; (with_reducible refine (laws_toIntSS.calls k _ _ l0 t454 _ ?side1 ?side2 A15.out).mono ?_); (case side1 => exact cS (Kd.C_below HR0.out HB.out)); (case side2 => exact HC0.out); rintro e w403 ⟨v455, rfl, ho0, hb⟩; refine ⟨_, rfl, ?_⟩; obtain ⟨b456, HZ456, hz456⟩ := S_born ho0; have HL456 := Aside0.mk (show w.heap.size ≤ b456 from by rw [HZ456.out]; exact (below_size bS)); have HO456 := Aside0.mk (hz456); replace HO441 := Aside0.mk (S_oldB (by (with_reducible repeat (first | apply Kd.S_alloc | apply Kd.S_drewN | apply Kd.S_drew)); exact HO441.out) hb HZ456.out); replace HO444 := Aside0.mk (R_oldB (rS HO444) hb HZ456.out); replace HO452 := Aside0.mk (S_oldB (by (with_reducible repeat (first | apply Kd.S_alloc | apply Kd.S_drewN | apply Kd.S_drew)); exact HO452.out) hb HZ456.out); replace BK436 := kB (g := gb436) hb; replace HB := hB hb; (try clear hb); (try clear hb2); (try clear hk); (try clear hi); (try clear ho0); have hz404 := cz6 BK436) | ((with_reducible refine gC 25 ?_); refine cL (some 41) Try.func25 #[.agg #[.slice A2_0 l2_0.length c2_0, .int .i64 a2_1, .int .i64 a2_2, .int .i64 a2_3, .int .i64 a2_4, .int .i64 a2_5]] ?_; (with_reducible refine (laws_toObject.calls k _ _ l2_0 a2_1 a2_2 a2_3 a2_4 a2_5 t457 t460 t461 t462 t463 t464 _ ?side1 ?side2 A16.out).mono ?_); (case side1 => exact cS (Kd.C_below HR2_0.out HB.out)); (case side2 => exact HC2_0.out); rintro e w405 ⟨v458, rfl, ho0, hb⟩; refine ⟨_, rfl, ?_⟩; obtain ⟨b459, HZ459, hz459⟩ := R_born ho0; have HL459 := Aside0.mk (show w.heap.size ≤ b459 from by rw [HZ459.out]; exact (below_size bS)); have HO459 := Aside0.mk (hz459); replace HO441 := Aside0.mk (S_oldB (by (with_reducible repeat (first | apply Kd.S_alloc | apply Kd.S_drewN | apply Kd.S_drew)); exact HO441.out) hb HZ459.out); replace HO444 := Aside0.mk (R_oldB (rS HO444) hb HZ459.out); replace HO452 := Aside0.mk (S_oldB (by (with_reducible repeat (first | apply Kd.S_alloc | apply Kd.S_drewN | apply Kd.S_drew)); exact HO452.out) hb HZ459.out); replace HO456 := Aside0.mk (S_oldB (by (with_reducible repeat (first | apply Kd.S_alloc | apply Kd.S_drewN | apply Kd.S_drew)); exact HO456.out) hb HZ459.out); replace BK436 := kB (g := gb436) hb; replace HB := hB hb; (try clear hb); (try clear hb2); (try clear hk); (try clear hi); (try clear ho0)) | ((with_reducible refine gD 11 ?_); refine bxE #[.slice none 0 0, .int .i64 0, .int .i64 0, .int .i64 0, .int .i64 0, .int .i64 0] 45 ?_; intro gb465 hg w406 BK465 hb; have GW465 := gE hg; have GE465 := gE hg; have NB436_465 := nL (g := gb436) hg; have NB465_436 := nG (g := gb436) hg; replace HO441 := Aside0.mk (Kd.S_below (by (with_reducible repeat (first | apply Kd.S_alloc | apply Kd.S_drewN | apply Kd.S_drew)); exact HO441.out) hb); replace HO444 := Aside0.mk (Kd.R_below (rS HO444) hb); replace HO452 := Aside0.mk (Kd.S_below (by (with_reducible repeat (first | apply Kd.S_alloc | apply Kd.S_drewN | apply Kd.S_drew)); exact HO452.out) hb); replace HO456 := Aside0.mk (Kd.S_below (by (with_reducible repeat (first | apply Kd.S_alloc | apply Kd.S_drewN | apply Kd.S_drew)); exact HO456.out) hb); replace HO459 := Aside0.mk (Kd.R_below (rS HO459) hb); replace BK436 := kB (g := gb436) hb; replace HB := hB hb; clear hb hg; obtain ⟨Ao407, co407, eo407⟩ := Kd.R_slice HO459.out; subst eo407; have hnb408 := NB465_436.out; have hnc408 := NB436_465.out; have hz409 := cz6 BK465; obtain ⟨Ao410, co410, eo410⟩ := Kd.S_slice HO456.out; subst eo410) | ((with_reducible refine gC 53 ?_); refine cL (some 46) Try.func53 #[.slice Ao410 t454.length co410, .int .i64 a1, .agg #[.slice Ao407 t457.length co407, .int .i64 t460, .int .i64 t461, .int .i64 t462, .int .i64 t463, .int .i64 t464]] ?_; (with_reducible refine (impl_PaintObject.calls k _ _ t454 a1 _ _ t457 t460 t461 t462 t463 t464 t466 t469 _ ?side1 ?side2 ?side3 ?side4 A17.out).mono ?_); (case side1 => exact (Kd.S_reads' (e := 71) (n := t454.length) (c := co410) (by (with_reducible repeat (first | apply Kd.S_alloc | apply Kd.S_drewN | apply Kd.S_drew)); exact (Kd.S_mono (Kd.S_far (p := ⟨gb465, 5, none⟩) (Kd.S_far (p := ⟨gb465, 4, none⟩) (Kd.S_far (p := ⟨gb465, 3, none⟩) (Kd.S_far (p := ⟨gb465, 2, none⟩) (Kd.S_far (p := ⟨gb465, 1, none⟩) (Kd.S_far (p := ⟨gb465, 0, none⟩) (Kd.S_types HO456.out BK465.out (by decide)) (fun _ hk => hk.2) (.slice Ao407 t457.length co407)) (fun _ hk => hk.2) (.int .i64 t460)) (fun _ hk => hk.2) (.int .i64 t461)) (fun _ hk => hk.2) (.int .i64 t462)) (fun _ hk => hk.2) (.int .i64 t463)) (fun _ hk => hk.2) (.int .i64 t464)) (fun _ h_ => h_.1)))).2.2); (case side2 => exact (Kd.S_reads' HO456.out).2.1); (case side3 => exact (Kd.R_reads' (e := 171) (n := t457.length) (c := co407) (by (with_reducible repeat (first | apply Kd.R_alloc | apply Kd.R_drewN | apply Kd.R_drew)); exact (Kd.R_mono (Kd.R_far (p := ⟨gb465, 5, none⟩) (Kd.R_far (p := ⟨gb465, 4, none⟩) (Kd.R_far (p := ⟨gb465, 3, none⟩) (Kd.R_far (p := ⟨gb465, 2, none⟩) (Kd.R_far (p := ⟨gb465, 1, none⟩) (Kd.R_far (p := ⟨gb465, 0, none⟩) (Kd.R_types HO459.out BK465.out (by decide)) (fun _ hk => hk.2) (.slice Ao407 t457.length co407)) (fun _ hk => hk.2) (.int .i64 t460)) (fun _ hk => hk.2) (.int .i64 t461)) (fun _ hk => hk.2) (.int .i64 t462)) (fun _ hk => hk.2) (.int .i64 t463)) (fun _ hk => hk.2) (.int .i64 t464)) (fun _ h_ => h_.1)))).2.2); (case side4 => exact (Kd.R_reads' HO459.out).2.1); rintro e w411 ⟨v467, rfl, ho0, hb⟩; refine ⟨_, rfl, ?_⟩; obtain ⟨b468, HZ468, hz468⟩ := S_born ho0; have HL468 := Aside0.mk (show w.heap.size ≤ b468 from by rw [HZ468.out]; exact (below_size bS)); have HO468 := Aside0.mk (hz468); replace HO441 := Aside0.mk (S_oldB (by (with_reducible repeat (first | apply Kd.S_alloc | apply Kd.S_drewN | apply Kd.S_drew)); exact (Kd.S_mono (Kd.S_far (p := ⟨gb465, 5, none⟩) (Kd.S_far (p := ⟨gb465, 4, none⟩) (Kd.S_far (p := ⟨gb465, 3, none⟩) (Kd.S_far (p := ⟨gb465, 2, none⟩) (Kd.S_far (p := ⟨gb465, 1, none⟩) (Kd.S_far (p := ⟨gb465, 0, none⟩) (Kd.S_types HO441.out BK465.out (by decide)) (fun _ hk => hk.2) (.slice Ao407 t457.length co407)) (fun _ hk => hk.2) (.int .i64 t460)) (fun _ hk => hk.2) (.int .i64 t461)) (fun _ hk => hk.2) (.int .i64 t462)) (fun _ hk => hk.2) (.int .i64 t463)) (fun _ hk => hk.2) (.int .i64 t464)) (fun _ h_ => h_.1))) hb HZ468.out); replace HO444 := Aside0.mk (R_oldB (by (with_reducible repeat (first | apply Kd.R_alloc | apply Kd.R_drewN | apply Kd.R_drew)); exact (Kd.R_mono (Kd.R_far (p := ⟨gb465, 5, none⟩) (Kd.R_far (p := ⟨gb465, 4, none⟩) (Kd.R_far (p := ⟨gb465, 3, none⟩) (Kd.R_far (p := ⟨gb465, 2, none⟩) (Kd.R_far (p := ⟨gb465, 1, none⟩) (Kd.R_far (p := ⟨gb465, 0, none⟩) (Kd.R_types HO444.out BK465.out (by decide)) (fun _ hk => hk.2) (.slice Ao407 t457.length co407)) (fun _ hk => hk.2) (.int .i64 t460)) (fun _ hk => hk.2) (.int .i64 t461)) (fun _ hk => hk.2) (.int .i64 t462)) (fun _ hk => hk.2) (.int .i64 t463)) (fun _ hk => hk.2) (.int .i64 t464)) (fun _ h_ => h_.1))) hb HZ468.out); replace HO452 := Aside0.mk (S_oldB (by (with_reducible repeat (first | apply Kd.S_alloc | apply Kd.S_drewN | apply Kd.S_drew)); exact (Kd.S_mono (Kd.S_far (p := ⟨gb465, 5, none⟩) (Kd.S_far (p := ⟨gb465, 4, none⟩) (Kd.S_far (p := ⟨gb465, 3, none⟩) (Kd.S_far (p := ⟨gb465, 2, none⟩) (Kd.S_far (p := ⟨gb465, 1, none⟩) (Kd.S_far (p := ⟨gb465, 0, none⟩) (Kd.S_types HO452.out BK465.out (by decide)) (fun _ hk => hk.2) (.slice Ao407 t457.length co407)) (fun _ hk => hk.2) (.int .i64 t460)) (fun _ hk => hk.2) (.int .i64 t461)) (fun _ hk => hk.2) (.int .i64 t462)) (fun _ hk => hk.2) (.int .i64 t463)) (fun _ hk => hk.2) (.int .i64 t464)) (fun _ h_ => h_.1))) hb HZ468.out); replace HO456 := Aside0.mk (S_oldB (by (with_reducible repeat (first | apply Kd.S_alloc | apply Kd.S_drewN | apply Kd.S_drew)); exact (Kd.S_mono (Kd.S_far (p := ⟨gb465, 5, none⟩) (Kd.S_far (p := ⟨gb465, 4, none⟩) (Kd.S_far (p := ⟨gb465, 3, none⟩) (Kd.S_far (p := ⟨gb465, 2, none⟩) (Kd.S_far (p := ⟨gb465, 1, none⟩) (Kd.S_far (p := ⟨gb465, 0, none⟩) (Kd.S_types HO456.out BK465.out (by decide)) (fun _ hk => hk.2) (.slice Ao407 t457.length co407)) (fun _ hk => hk.2) (.int .i64 t460)) (fun _ hk => hk.2) (.int .i64 t461)) (fun _ hk => hk.2) (.int .i64 t462)) (fun _ hk => hk.2) (.int .i64 t463)) (fun _ hk => hk.2) (.int .i64 t464)) (fun _ h_ => h_.1))) hb HZ468.out); replace HO459 := Aside0.mk (R_oldB (by (with_reducible repeat (first | apply Kd.R_alloc | apply Kd.R_drewN | apply Kd.R_drew)); exact (Kd.R_mono (Kd.R_far (p := ⟨gb465, 5, none⟩) (Kd.R_far (p := ⟨gb465, 4, none⟩) (Kd.R_far (p := ⟨gb465, 3, none⟩) (Kd.R_far (p := ⟨gb465, 2, none⟩) (Kd.R_far (p := ⟨gb465, 1, none⟩) (Kd.R_far (p := ⟨gb465, 0, none⟩) (Kd.R_types HO459.out BK465.out (by decide)) (fun _ hk => hk.2) (.slice Ao407 t457.length co407)) (fun _ hk => hk.2) (.int .i64 t460)) (fun _ hk => hk.2) (.int .i64 t461)) (fun _ hk => hk.2) (.int .i64 t462)) (fun _ hk => hk.2) (.int .i64 t463)) (fun _ hk => hk.2) (.int .i64 t464)) (fun _ h_ => h_.1))) hb HZ468.out); replace BK436 := kB (g := gb436) hb; replace BK465 := Aside0.mk (blk_below (g := gb465) (o := .cells #[.slice Ao407 t457.length co407, .int .i64 t460, .int .i64 t461, .int .i64 t462, .int .i64 t463, .int .i64 t464] 45 (0, 0)) kS hb); replace HB := hB hb; (try clear hb); (try clear hb2); (try clear hk); (try clear hi); (try clear ho0); obtain ⟨Ao412, co412, eo412⟩ := Kd.S_slice HO468.out; subst eo412; obtain ⟨Ao413, co413, eo413⟩ := Kd.S_slice HO452.out; subst eo413) | ((with_reducible refine gC 54 ?_); refine cL (some 51) Try.func54 #[.slice Ao412 t466.length co412, .slice Ao413 t450.length co413] ?_; (with_reducible refine (laws_eqIntSS.calls k _ _ t466 _ _ t450 _ _ ?side1 ?side2 ?side3 ?side4 A18.out).mono ?_); (case side1 => exact cS (Kd.S_reads' HO468.out).2.2); (case side2 => exact (Kd.S_reads' HO468.out).2.1); (case side3 => exact cS (Kd.S_reads' HO452.out).2.2); (case side4 => exact (Kd.S_reads' HO452.out).2.1); rintro e w' ⟨rfl, ⟨nd, rfl⟩⟩; refine ⟨_, rfl, ?_⟩) | ((with_reducible refine gC 52 ?_); refine cL (some 60) Try.func52 #[.slice A0 l0.length c0] ?_; (with_reducible refine (laws_toIntSS.calls k _ _ l0 t471 _ ?side1 ?side2 A41.out).mono ?_); (case side1 => exact cS (Kd.C_below HR0.out bS)); (case side2 => exact HC0.out); rintro e w414 ⟨v472, rfl, ho0, hb⟩; refine ⟨_, rfl, ?_⟩; obtain ⟨b473, HZ473, hz473⟩ := S_born ho0; have HL473 := Aside0.mk (show w.heap.size ≤ b473 from by rw [HZ473.out]; exact (below_size bS)); have HO473 := Aside0.mk (hz473); replace HO441 := Aside0.mk (S_oldB (by (with_reducible repeat (first | apply Kd.S_alloc | apply Kd.S_drewN | apply Kd.S_drew)); exact HO441.out) hb HZ473.out); replace HO444 := Aside0.mk (R_oldB (rS HO444) hb HZ473.out); replace HO452 := Aside0.mk (S_oldB (by (with_reducible repeat (first | apply Kd.S_alloc | apply Kd.S_drewN | apply Kd.S_drew)); exact HO452.out) hb HZ473.out); replace HO456 := Aside0.mk (S_oldB (by (with_reducible repeat (first | apply Kd.S_alloc | apply Kd.S_drewN | apply Kd.S_drew)); exact HO456.out) hb HZ473.out); replace HO459 := Aside0.mk (R_oldB (rS HO459) hb HZ473.out); replace HO468 := Aside0.mk (S_oldB (by (with_reducible repeat (first | apply Kd.S_alloc | apply Kd.S_drewN | apply Kd.S_drew)); exact HO468.out) hb HZ473.out); replace BK436 := kB (g := gb436) hb; replace BK465 := kB (g := gb465) hb; replace HB := hB hb; (try clear hb); (try clear hb2); (try clear hk); (try clear hi); (try clear ho0); obtain ⟨Ao415, co415, eo415⟩ := Kd.S_slice HO473.out; subst eo415) | ((with_reducible refine gC 54 ?_); refine cL (some 61) Try.func54 #[.slice Ao410 t454.length co410, .slice Ao415 t471.length co415] ?_; (with_reducible refine (laws_eqIntSS.calls k _ _ t454 _ _ t471 _ _ ?side1 ?side2 ?side3 ?side4 A42.out).mono ?_); (case side1 => exact cS (Kd.S_reads' HO456.out).2.2); (case side2 => exact (Kd.S_reads' HO456.out).2.1); (case side3 => exact cS (Kd.S_reads' HO473.out).2.2); (case side4 => exact (Kd.S_reads' HO473.out).2.1); rintro e w' ⟨rfl, ⟨nd, rfl⟩⟩; refine ⟨_, rfl, ?_⟩))
  go_ret
  exact ⟨eS, bS⟩) : p := h
theorem laws_FnExactPaintObject.lf2 {p : Prop} (h : p := by
  go_enter Try.func9, Try.ntmps9
  try go_wp2_with (first | ((with_reducible refine gD 5 ?_); refine bxE #[.slice A2_0 l2_0.length c2_0, .int .i64 a2_1, .int .i64 a2_2, .int .i64 a2_3, .int .i64 a2_4, .int .i64 a2_5] 38 ?_; intro gb436 hg w309 BK436 hb; have GW436 := gE hg; have GE436 := gE hg; replace HB := hB hb; clear hb hg) | ((with_reducible refine gC 50 ?_); refine cL (some 21) Try.func50 #[.slice A0 l0.length c0, .int .i64 1048576] ?_; (with_reducible refine (laws_szIntSS.calls k _ _ l0 1048576 t437 _ ?side1 ?side2 A4.out).mono ?_); (case side1 => exact cS (Kd.C_below HR0.out HB.out)); (case side2 => exact HC0.out); rintro e w' ⟨rfl, ⟨nd, rfl⟩⟩; refine ⟨_, rfl, ?_⟩; (try (rw [drewN_self w309]; generalize hq_ : World.drewN w309 _ = w309; replace BK436 : Aside0 (w309.heap[gb436]? = some (.cells #[.slice A2_0 l2_0.length c2_0, .int .i64 a2_1, .int .i64 a2_2, .int .i64 a2_3, .int .i64 a2_4, .int .i64 a2_5] 38 (0, 0))) := ⟨by rw [← hq_]; exact kS⟩; replace HB : Aside0 (Below w.heap.size w w309) := ⟨by rw [← hq_]; exact bS⟩; clear hq_)); have hz310 := cz6 BK436) | ((with_reducible refine gC 23 ?_); refine cL (some 26) Try.func23 #[.agg #[.slice A2_0 l2_0.length c2_0, .int .i64 a2_1, .int .i64 a2_2, .int .i64 a2_3, .int .i64 a2_4, .int .i64 a2_5], .int .i64 t437] ?_; (with_reducible refine (laws_szObject.calls _ _ l2_0 a2_1 a2_2 a2_3 a2_4 a2_5 t437 t438 _ ?side1 ?side2 A7.out).mono ?_); (case side1 => exact cS (Kd.C_below HR2_0.out HB.out)); (case side2 => exact HC2_0.out); rintro e w311 ⟨rfl, hb⟩; refine ⟨_, rfl, ?_⟩; replace BK436 := kB (g := gb436) hb; replace HB := hB hb; (try clear hb); (try clear hb2); (try clear hk); (try clear hi)))
  replace BK436 := Aside0.mk (blk_drew BK436.out)
  replace HB := Aside0.mk (below_drew1 HB.out)
  refine start_ (n := 11) (S := fun w' => w'.cell? ⟨gb436, 0, none⟩ = some (.slice A2_0 l2_0.length c2_0) ∧ w'.cell? ⟨gb436, 1, none⟩ = some (.int .i64 a2_1) ∧ w'.cell? ⟨gb436, 2, none⟩ = some (.int .i64 a2_2) ∧ w'.cell? ⟨gb436, 3, none⟩ = some (.int .i64 a2_3) ∧ w'.cell? ⟨gb436, 4, none⟩ = some (.int .i64 a2_4) ∧ w'.cell? ⟨gb436, 5, none⟩ = some (.int .i64 a2_5)) (ds := []) #[false, false, false, false, false, false, false, false, false, false, false] (by kernel_rfl) rfl rfl ⟨(blk_cell BK436.out 0).trans rfl, (blk_cell BK436.out 1).trans rfl, (blk_cell BK436.out 2).trans rfl, (blk_cell BK436.out 3).trans rfl, (blk_cell BK436.out 4).trans rfl, (blk_cell BK436.out 5).trans rfl⟩ (fun hHeld => ?_); refine with_tabW laws_FnExactPaintObject.tab8 laws_FnExactPaintObject.bits8 (fun HT_ HW_ => ?_)
  generalize w311.drew = w312 at BK436 HB hHeld ⊢
  refine pure_ (i := 0) (N := some 30) (v := ?_) (a' := ?_) #[true, false, false, false, false, false, false, false, false, false, false] rfl rfl (any_of HT_.out (by kernel_rfl)) (fun _ _ _ h => h) (Or.inl ⟨by rfl, ?_⟩) ?_ ?_
  rotate_left
  · intro w'
    go_simp
    with_reducible rfl
  rotate_left
  · simp only [Act.put, List.setIfInBounds_toArray, List.set_cons_zero, List.set_cons_succ, i64_w, i32_w]
    rfl
  refine pure_ (i := 2) (N := some 32) (v := ?_) (a' := ?_) #[true, false, true, false, false, false, false, false, false, false, false] rfl rfl (any_of HT_.out (by kernel_rfl)) (fun _ _ _ h => h) (Or.inl ⟨by rfl, ?_⟩) ?_ ?_
  rotate_left
  · intro w'
    go_simp
    with_reducible rfl
  rotate_left
  · simp only [Act.put, List.setIfInBounds_toArray, List.set_cons_zero, List.set_cons_succ, i64_w, i32_w]
    rfl
  refine take_ (i := 3) (N := some 33) (v := ?_) (a' := ?_) #[true, false, true, true, false, false, false, false, false, false, false] rfl rfl (take_ofW HT_.out HW_.out (by kernel_rfl)) (fun _ _ _ h => h) (Or.inl ⟨by rfl, ?_⟩) hHeld ?_ ?_
  rotate_left
  · rintro w' ⟨s0, s1, s2, s3, s4, s5⟩
    go_simp
    with_reducible rfl
  rotate_left
  · simp only [Act.put, List.setIfInBounds_toArray, List.set_cons_zero, List.set_cons_succ, i64_w, i32_w]
    rfl
  refine one_ (i := 1) (N := some 31) #[true, true, true, true, false, false, false, false, false, false, false] rfl rfl (one_of HT_.out (by kernel_rfl)) (by decide) (fun K hK => ?_)
  refine goes_ Try.func52 (by kernel_rfl) rfl #[.slice A0 l0.length c0] (by rfl) rfl rfl (by (try simp only [List.map_toArray, List.map_cons, List.map_nil]); first | done | rfl | (simp only [List.length_drop, List.length_take]; rfl)) ?_
  with_reducible refine (laws_toIntSS.calls k _ _ l0 t439 _ ?side1 ?side2 A12.out).mono ?_
  (case side1 => exact cS (Kd.C_below HR0.out HB.out))
  (case side2 => exact HC0.out)
  rintro e w313 ⟨v440, rfl, ho0, hb⟩
  refine ⟨_, rfl, ?_⟩
  obtain ⟨b441, HZ441, hz441⟩ := S_born ho0
  have HL441 := Aside0.mk (show w.heap.size ≤ b441 from by rw [HZ441.out]; exact (below_size bS))
  have HO441 := Aside0.mk (hz441)
  replace BK436 := kB (g := gb436) hb
  replace HB := hB hb
  (try clear hb)
  (try clear hb2)
  (try clear hk)
  (try clear hi)
  (try clear ho0)
  refine hK.out _ _ ⟨(blk_cell BK436.out 0).trans rfl, (blk_cell BK436.out 1).trans rfl, (blk_cell BK436.out 2).trans rfl, (blk_cell BK436.out 3).trans rfl, (blk_cell BK436.out 4).trans rfl, (blk_cell BK436.out 5).trans rfl⟩ (fun hHeld => ?_)
  clear hK K
  refine norm_ (a' := ?_) ?_ ?_
  rotate_left
  · show Act.put _ (some 31) _ = _
    simp only [Act.put, List.setIfInBounds_toArray, List.set_cons_zero, List.set_cons_succ, i64_w, i32_w]
    rfl
  refine one_ (i := 4) (N := some 34) #[true, true, true, true, true, false, false, false, false, false, false] rfl rfl (one_of HT_.out (by kernel_rfl)) (by decide) (fun K hK => ?_)
  refine goes_ Try.func25 (by kernel_rfl) rfl #[.agg #[.slice A2_0 l2_0.length c2_0, .int .i64 a2_1, .int .i64 a2_2, .int .i64 a2_3, .int .i64 a2_4, .int .i64 a2_5]] (by rfl) rfl rfl (by (try simp only [List.map_toArray, List.map_cons, List.map_nil]); first | done | rfl | (simp only [List.length_drop, List.length_take]; rfl)) ?_
  with_reducible refine (laws_toObject.calls k _ _ l2_0 a2_1 a2_2 a2_3 a2_4 a2_5 t442 t445 t446 t447 t448 t449 _ ?side1 ?side2 A13.out).mono ?_
  (case side1 => exact cS (Kd.C_below HR2_0.out HB.out))
  (case side2 => exact HC2_0.out)
  rintro e w314 ⟨v443, rfl, ho0, hb⟩
  refine ⟨_, rfl, ?_⟩
  obtain ⟨b444, HZ444, hz444⟩ := R_born ho0
  have HL444 := Aside0.mk (show w.heap.size ≤ b444 from by rw [HZ444.out]; exact (below_size bS))
  have HO444 := Aside0.mk (hz444)
  replace HO441 := Aside0.mk (S_oldB (by (with_reducible repeat (first | apply Kd.S_alloc | apply Kd.S_drewN | apply Kd.S_drew)); exact HO441.out) hb HZ444.out)
  replace BK436 := kB (g := gb436) hb
  replace HB := hB hb
  (try clear hb)
  (try clear hb2)
  (try clear hk)
  (try clear hi)
  (try clear ho0)
  obtain ⟨Ao315, co315, eo315⟩ := Kd.S_slice HO441.out
  (first | subst eo315 | (injection eo315 with f1_ f2_ f3_; have f4_ := f1_.symm; have f5_ := f3_.symm; clear f1_ f2_ f3_; subst f4_; subst f5_))
  obtain ⟨Ao316, co316, eo316⟩ := Kd.R_slice HO444.out
  (first | subst eo316 | (injection eo316 with f1_ f2_ f3_; have f4_ := f1_.symm; have f5_ := f3_.symm; clear f1_ f2_ f3_; subst f4_; subst f5_))
  refine hK.out _ _ ⟨(blk_cell BK436.out 0).trans rfl, (blk_cell BK436.out 1).trans rfl, (blk_cell BK436.out 2).trans rfl, (blk_cell BK436.out 3).trans rfl, (blk_cell BK436.out 4).trans rfl, (blk_cell BK436.out 5).trans rfl⟩ (fun hHeld => ?_)
  clear hK K
  refine norm_ (a' := ?_) ?_ ?_
  rotate_left
  · show Act.put _ (some 34) _ = _
    simp only [Act.put, List.setIfInBounds_toArray, List.set_cons_zero, List.set_cons_succ, i64_w, i32_w]
    rfl
  refine one_ (i := 5) (N := some 35) #[true, true, true, true, true, true, false, false, false, false, false] rfl rfl (one_of HT_.out (by kernel_rfl)) (by decide) (fun K hK => ?_)
  refine goes_ Try.func51 (by kernel_rfl) rfl #[.slice Ao315 t439.length co315, .int .i64 a1, .agg #[.slice Ao316 t442.length co316, .int .i64 t445, .int .i64 t446, .int .i64 t447, .int .i64 t448, .int .i64 t449]] (by rfl) rfl rfl (by (try simp only [List.map_toArray, List.map_cons, List.map_nil]); first | done | rfl | (simp only [List.length_drop, List.length_take]; rfl)) ?_
  with_reducible refine (spec_PaintObject.calls k _ _ t439 a1 _ _ t442 t445 t446 t447 t448 t449 t450 t453 _ ?side1 ?side2 ?side3 ?side4 A14.out).mono ?_
  (case side1 => exact cS (Kd.S_reads' HO441.out).2.2)
  (case side2 => exact (Kd.S_reads' HO441.out).2.1)
  (case side3 => exact cS (Kd.R_reads' HO444.out).2.2)
  (case side4 => exact (Kd.R_reads' HO444.out).2.1)
  rintro e w317 ⟨v451, rfl, ho0, hb⟩
  refine ⟨_, rfl, ?_⟩
  obtain ⟨b452, HZ452, hz452⟩ := S_born ho0
  have HL452 := Aside0.mk (show w.heap.size ≤ b452 from by rw [HZ452.out]; exact (below_size bS))
  have HO452 := Aside0.mk (hz452)
  replace HO441 := Aside0.mk (S_oldB (by (with_reducible repeat (first | apply Kd.S_alloc | apply Kd.S_drewN | apply Kd.S_drew)); exact HO441.out) hb HZ452.out)
  replace HO444 := Aside0.mk (R_oldB (rS HO444) hb HZ452.out)
  replace BK436 := kB (g := gb436) hb
  replace HB := hB hb
  (try clear hb)
  (try clear hb2)
  (try clear hk)
  (try clear hi)
  (try clear ho0)
  refine hK.out _ _ ⟨(blk_cell BK436.out 0).trans rfl, (blk_cell BK436.out 1).trans rfl, (blk_cell BK436.out 2).trans rfl, (blk_cell BK436.out 3).trans rfl, (blk_cell BK436.out 4).trans rfl, (blk_cell BK436.out 5).trans rfl⟩ (fun hHeld => ?_)
  clear hK K
  refine norm_ (a' := ?_) ?_ ?_
  rotate_left
  · show Act.put _ (some 35) _ = _
    simp only [Act.put, List.setIfInBounds_toArray, List.set_cons_zero, List.set_cons_succ, i64_w, i32_w]
    rfl
  refine pure_ (i := 6) (N := some 29) (v := ?_) (a' := ?_) #[true, true, true, true, true, true, true, false, false, false, false] rfl rfl (any_of HT_.out (by kernel_rfl)) (fun _ _ _ h => h) (Or.inl ⟨by rfl, ?_⟩) ?_ ?_
  rotate_left
  · intro w'
    go_simp
    with_reducible rfl
  rotate_left
  · simp only [Act.put, List.setIfInBounds_toArray, List.set_cons_zero, List.set_cons_succ, i64_w, i32_w]
    rfl
  refine pure_ (i := 7) (N := some 36) (v := ?_) (a' := ?_) #[true, true, true, true, true, true, true, true, false, false, false] rfl rfl (any_of HT_.out (by kernel_rfl)) (fun _ _ _ h => h) (Or.inl ⟨by rfl, ?_⟩) ?_ ?_
  rotate_left
  · intro w'
    go_simp
    with_reducible rfl
  rotate_left
  · simp only [Act.put, List.setIfInBounds_toArray, List.set_cons_zero, List.set_cons_succ, i64_w, i32_w]
    rfl
  refine pure_ (i := 8) (N := some 37) (v := ?_) (a' := ?_) #[true, true, true, true, true, true, true, true, true, false, false] rfl rfl (any_of HT_.out (by kernel_rfl)) (fun _ _ _ h => h) (Or.inl ⟨by rfl, ?_⟩) ?_ ?_
  rotate_left
  · intro w'
    go_simp
    with_reducible rfl
  rotate_left
  · simp only [Act.put, List.setIfInBounds_toArray, List.set_cons_zero, List.set_cons_succ, i64_w, i32_w]
    rfl
  refine pure_ (i := 9) (N := some 8) (v := ?_) (a' := ?_) #[true, true, true, true, true, true, true, true, true, true, false] rfl rfl (any_of HT_.out (by kernel_rfl)) (fun _ _ _ h => h) (Or.inl ⟨by rfl, ?_⟩) ?_ ?_
  rotate_left
  · intro w'
    go_simp
    with_reducible rfl
  rotate_left
  · simp only [Act.put, List.setIfInBounds_toArray, List.set_cons_zero, List.set_cons_succ, i64_w, i32_w]
    rfl
  refine pure_ (i := 10) (N := some 9) (v := ?_) (a' := ?_) #[true, true, true, true, true, true, true, true, true, true, true] rfl rfl (any_of HT_.out (by kernel_rfl)) (fun _ _ _ h => h) (Or.inl ⟨by rfl, ?_⟩) ?_ ?_
  rotate_left
  · intro w'
    go_simp
    with_reducible rfl
  rotate_left
  · simp only [Act.put, List.setIfInBounds_toArray, List.set_cons_zero, List.set_cons_succ, i64_w, i32_w]
    rfl
  refine done_ (done_of HT_.out (by kernel_rfl)) ?_
  try go_wp2_with (first | ((with_reducible refine gC 52 ?_); refine cL (some 39) Try.func52 #[.slice A0 l0.length c0] ?_; (with_reducible refine (laws_toIntSS.calls k _ _ l0 t454 _ ?side1 ?side2 A15.out).mono ?_); (case side1 => exact cS (Kd.C_below HR0.out HB.out)); (case side2 => exact HC0.out); rintro e w318 ⟨v455, rfl, ho0, hb⟩; refine ⟨_, rfl, ?_⟩; obtain ⟨b456, HZ456, hz456⟩ := S_born ho0; have HL456 := Aside0.mk (show w.heap.size ≤ b456 from by rw [HZ456.out]; exact (below_size bS)); have HO456 := Aside0.mk (hz456); replace HO441 := Aside0.mk (S_oldB (by (with_reducible repeat (first | apply Kd.S_alloc | apply Kd.S_drewN | apply Kd.S_drew)); exact HO441.out) hb HZ456.out); replace HO444 := Aside0.mk (R_oldB (rS HO444) hb HZ456.out); replace HO452 := Aside0.mk (S_oldB (by (with_reducible repeat (first | apply Kd.S_alloc | apply Kd.S_drewN | apply Kd.S_drew)); exact HO452.out) hb HZ456.out); replace BK436 := kB (g := gb436) hb; replace HB := hB hb; (try clear hb); (try clear hb2); (try clear hk); (try clear hi); (try clear ho0); have hz319 := cz6 BK436) | ((with_reducible refine gC 25 ?_); refine cL (some 41) Try.func25 #[.agg #[.slice A2_0 l2_0.length c2_0, .int .i64 a2_1, .int .i64 a2_2, .int .i64 a2_3, .int .i64 a2_4, .int .i64 a2_5]] ?_; (with_reducible refine (laws_toObject.calls k _ _ l2_0 a2_1 a2_2 a2_3 a2_4 a2_5 t457 t460 t461 t462 t463 t464 _ ?side1 ?side2 A16.out).mono ?_); (case side1 => exact cS (Kd.C_below HR2_0.out HB.out)); (case side2 => exact HC2_0.out); rintro e w320 ⟨v458, rfl, ho0, hb⟩; refine ⟨_, rfl, ?_⟩; obtain ⟨b459, HZ459, hz459⟩ := R_born ho0; have HL459 := Aside0.mk (show w.heap.size ≤ b459 from by rw [HZ459.out]; exact (below_size bS)); have HO459 := Aside0.mk (hz459); replace HO441 := Aside0.mk (S_oldB (by (with_reducible repeat (first | apply Kd.S_alloc | apply Kd.S_drewN | apply Kd.S_drew)); exact HO441.out) hb HZ459.out); replace HO444 := Aside0.mk (R_oldB (rS HO444) hb HZ459.out); replace HO452 := Aside0.mk (S_oldB (by (with_reducible repeat (first | apply Kd.S_alloc | apply Kd.S_drewN | apply Kd.S_drew)); exact HO452.out) hb HZ459.out); replace HO456 := Aside0.mk (S_oldB (by (with_reducible repeat (first | apply Kd.S_alloc | apply Kd.S_drewN | apply Kd.S_drew)); exact HO456.out) hb HZ459.out); replace BK436 := kB (g := gb436) hb; replace HB := hB hb; (try clear hb); (try clear hb2); (try clear hk); (try clear hi); (try clear ho0)) | ((with_reducible refine gD 11 ?_); refine bxE #[.slice none 0 0, .int .i64 0, .int .i64 0, .int .i64 0, .int .i64 0, .int .i64 0] 45 ?_; intro gb465 hg w321 BK465 hb; have GW465 := gE hg; have GE465 := gE hg; have NB436_465 := nL (g := gb436) hg; have NB465_436 := nG (g := gb436) hg; replace HO441 := Aside0.mk (Kd.S_below (by (with_reducible repeat (first | apply Kd.S_alloc | apply Kd.S_drewN | apply Kd.S_drew)); exact HO441.out) hb); replace HO444 := Aside0.mk (Kd.R_below (rS HO444) hb); replace HO452 := Aside0.mk (Kd.S_below (by (with_reducible repeat (first | apply Kd.S_alloc | apply Kd.S_drewN | apply Kd.S_drew)); exact HO452.out) hb); replace HO456 := Aside0.mk (Kd.S_below (by (with_reducible repeat (first | apply Kd.S_alloc | apply Kd.S_drewN | apply Kd.S_drew)); exact HO456.out) hb); replace HO459 := Aside0.mk (Kd.R_below (rS HO459) hb); replace BK436 := kB (g := gb436) hb; replace HB := hB hb; clear hb hg; obtain ⟨Ao322, co322, eo322⟩ := Kd.R_slice HO459.out; subst eo322; have hnb323 := NB465_436.out; have hnc323 := NB436_465.out; have hz324 := cz6 BK465; obtain ⟨Ao325, co325, eo325⟩ := Kd.S_slice HO456.out; subst eo325) | ((with_reducible refine gC 53 ?_); refine cL (some 46) Try.func53 #[.slice Ao325 t454.length co325, .int .i64 a1, .agg #[.slice Ao322 t457.length co322, .int .i64 t460, .int .i64 t461, .int .i64 t462, .int .i64 t463, .int .i64 t464]] ?_; (with_reducible refine (impl_PaintObject.calls k _ _ t454 a1 _ _ t457 t460 t461 t462 t463 t464 t466 t469 _ ?side1 ?side2 ?side3 ?side4 A17.out).mono ?_); (case side1 => exact (Kd.S_reads' (e := 71) (n := t454.length) (c := co325) (by (with_reducible repeat (first | apply Kd.S_alloc | apply Kd.S_drewN | apply Kd.S_drew)); exact (Kd.S_mono (Kd.S_far (p := ⟨gb465, 5, none⟩) (Kd.S_far (p := ⟨gb465, 4, none⟩) (Kd.S_far (p := ⟨gb465, 3, none⟩) (Kd.S_far (p := ⟨gb465, 2, none⟩) (Kd.S_far (p := ⟨gb465, 1, none⟩) (Kd.S_far (p := ⟨gb465, 0, none⟩) (Kd.S_types HO456.out BK465.out (by decide)) (fun _ hk => hk.2) (.slice Ao322 t457.length co322)) (fun _ hk => hk.2) (.int .i64 t460)) (fun _ hk => hk.2) (.int .i64 t461)) (fun _ hk => hk.2) (.int .i64 t462)) (fun _ hk => hk.2) (.int .i64 t463)) (fun _ hk => hk.2) (.int .i64 t464)) (fun _ h_ => h_.1)))).2.2); (case side2 => exact (Kd.S_reads' HO456.out).2.1); (case side3 => exact (Kd.R_reads' (e := 171) (n := t457.length) (c := co322) (by (with_reducible repeat (first | apply Kd.R_alloc | apply Kd.R_drewN | apply Kd.R_drew)); exact (Kd.R_mono (Kd.R_far (p := ⟨gb465, 5, none⟩) (Kd.R_far (p := ⟨gb465, 4, none⟩) (Kd.R_far (p := ⟨gb465, 3, none⟩) (Kd.R_far (p := ⟨gb465, 2, none⟩) (Kd.R_far (p := ⟨gb465, 1, none⟩) (Kd.R_far (p := ⟨gb465, 0, none⟩) (Kd.R_types HO459.out BK465.out (by decide)) (fun _ hk => hk.2) (.slice Ao322 t457.length co322)) (fun _ hk => hk.2) (.int .i64 t460)) (fun _ hk => hk.2) (.int .i64 t461)) (fun _ hk => hk.2) (.int .i64 t462)) (fun _ hk => hk.2) (.int .i64 t463)) (fun _ hk => hk.2) (.int .i64 t464)) (fun _ h_ => h_.1)))).2.2); (case side4 => exact (Kd.R_reads' HO459.out).2.1); rintro e w326 ⟨v467, rfl, ho0, hb⟩; refine ⟨_, rfl, ?_⟩; obtain ⟨b468, HZ468, hz468⟩ := S_born ho0; have HL468 := Aside0.mk (show w.heap.size ≤ b468 from by rw [HZ468.out]; exact (below_size bS)); have HO468 := Aside0.mk (hz468); replace HO441 := Aside0.mk (S_oldB (by (with_reducible repeat (first | apply Kd.S_alloc | apply Kd.S_drewN | apply Kd.S_drew)); exact (Kd.S_mono (Kd.S_far (p := ⟨gb465, 5, none⟩) (Kd.S_far (p := ⟨gb465, 4, none⟩) (Kd.S_far (p := ⟨gb465, 3, none⟩) (Kd.S_far (p := ⟨gb465, 2, none⟩) (Kd.S_far (p := ⟨gb465, 1, none⟩) (Kd.S_far (p := ⟨gb465, 0, none⟩) (Kd.S_types HO441.out BK465.out (by decide)) (fun _ hk => hk.2) (.slice Ao322 t457.length co322)) (fun _ hk => hk.2) (.int .i64 t460)) (fun _ hk => hk.2) (.int .i64 t461)) (fun _ hk => hk.2) (.int .i64 t462)) (fun _ hk => hk.2) (.int .i64 t463)) (fun _ hk => hk.2) (.int .i64 t464)) (fun _ h_ => h_.1))) hb HZ468.out); replace HO444 := Aside0.mk (R_oldB (by (with_reducible repeat (first | apply Kd.R_alloc | apply Kd.R_drewN | apply Kd.R_drew)); exact (Kd.R_mono (Kd.R_far (p := ⟨gb465, 5, none⟩) (Kd.R_far (p := ⟨gb465, 4, none⟩) (Kd.R_far (p := ⟨gb465, 3, none⟩) (Kd.R_far (p := ⟨gb465, 2, none⟩) (Kd.R_far (p := ⟨gb465, 1, none⟩) (Kd.R_far (p := ⟨gb465, 0, none⟩) (Kd.R_types HO444.out BK465.out (by decide)) (fun _ hk => hk.2) (.slice Ao322 t457.length co322)) (fun _ hk => hk.2) (.int .i64 t460)) (fun _ hk => hk.2) (.int .i64 t461)) (fun _ hk => hk.2) (.int .i64 t462)) (fun _ hk => hk.2) (.int .i64 t463)) (fun _ hk => hk.2) (.int .i64 t464)) (fun _ h_ => h_.1))) hb HZ468.out); replace HO452 := Aside0.mk (S_oldB (by (with_reducible repeat (first | apply Kd.S_alloc | apply Kd.S_drewN | apply Kd.S_drew)); exact (Kd.S_mono (Kd.S_far (p := ⟨gb465, 5, none⟩) (Kd.S_far (p := ⟨gb465, 4, none⟩) (Kd.S_far (p := ⟨gb465, 3, none⟩) (Kd.S_far (p := ⟨gb465, 2, none⟩) (Kd.S_far (p := ⟨gb465, 1, none⟩) (Kd.S_far (p := ⟨gb465, 0, none⟩) (Kd.S_types HO452.out BK465.out (by decide)) (fun _ hk => hk.2) (.slice Ao322 t457.length co322)) (fun _ hk => hk.2) (.int .i64 t460)) (fun _ hk => hk.2) (.int .i64 t461)) (fun _ hk => hk.2) (.int .i64 t462)) (fun _ hk => hk.2) (.int .i64 t463)) (fun _ hk => hk.2) (.int .i64 t464)) (fun _ h_ => h_.1))) hb HZ468.out); replace HO456 := Aside0.mk (S_oldB (by (with_reducible repeat (first | apply Kd.S_alloc | apply Kd.S_drewN | apply Kd.S_drew)); exact (Kd.S_mono (Kd.S_far (p := ⟨gb465, 5, none⟩) (Kd.S_far (p := ⟨gb465, 4, none⟩) (Kd.S_far (p := ⟨gb465, 3, none⟩) (Kd.S_far (p := ⟨gb465, 2, none⟩) (Kd.S_far (p := ⟨gb465, 1, none⟩) (Kd.S_far (p := ⟨gb465, 0, none⟩) (Kd.S_types HO456.out BK465.out (by decide)) (fun _ hk => hk.2) (.slice Ao322 t457.length co322)) (fun _ hk => hk.2) (.int .i64 t460)) (fun _ hk => hk.2) (.int .i64 t461)) (fun _ hk => hk.2) (.int .i64 t462)) (fun _ hk => hk.2) (.int .i64 t463)) (fun _ hk => hk.2) (.int .i64 t464)) (fun _ h_ => h_.1))) hb HZ468.out); replace HO459 := Aside0.mk (R_oldB (by (with_reducible repeat (first | apply Kd.R_alloc | apply Kd.R_drewN | apply Kd.R_drew)); exact (Kd.R_mono (Kd.R_far (p := ⟨gb465, 5, none⟩) (Kd.R_far (p := ⟨gb465, 4, none⟩) (Kd.R_far (p := ⟨gb465, 3, none⟩) (Kd.R_far (p := ⟨gb465, 2, none⟩) (Kd.R_far (p := ⟨gb465, 1, none⟩) (Kd.R_far (p := ⟨gb465, 0, none⟩) (Kd.R_types HO459.out BK465.out (by decide)) (fun _ hk => hk.2) (.slice Ao322 t457.length co322)) (fun _ hk => hk.2) (.int .i64 t460)) (fun _ hk => hk.2) (.int .i64 t461)) (fun _ hk => hk.2) (.int .i64 t462)) (fun _ hk => hk.2) (.int .i64 t463)) (fun _ hk => hk.2) (.int .i64 t464)) (fun _ h_ => h_.1))) hb HZ468.out); replace BK436 := kB (g := gb436) hb; replace BK465 := Aside0.mk (blk_below (g := gb465) (o := .cells #[.slice Ao322 t457.length co322, .int .i64 t460, .int .i64 t461, .int .i64 t462, .int .i64 t463, .int .i64 t464] 45 (0, 0)) kS hb); replace HB := hB hb; (try clear hb); (try clear hb2); (try clear hk); (try clear hi); (try clear ho0); obtain ⟨Ao327, co327, eo327⟩ := Kd.S_slice HO468.out; subst eo327; obtain ⟨Ao328, co328, eo328⟩ := Kd.S_slice HO452.out; subst eo328) | ((with_reducible refine gC 54 ?_); refine cL (some 51) Try.func54 #[.slice Ao327 t466.length co327, .slice Ao328 t450.length co328] ?_; (with_reducible refine (laws_eqIntSS.calls k _ _ t466 _ _ t450 _ _ ?side1 ?side2 ?side3 ?side4 A18.out).mono ?_); (case side1 => exact cS (Kd.S_reads' HO468.out).2.2); (case side2 => exact (Kd.S_reads' HO468.out).2.1); (case side3 => exact cS (Kd.S_reads' HO452.out).2.2); (case side4 => exact (Kd.S_reads' HO452.out).2.1); rintro e w' ⟨rfl, ⟨nd, rfl⟩⟩; refine ⟨_, rfl, ?_⟩) | ((with_reducible refine gC 52 ?_); refine cL (some 60) Try.func52 #[.slice A0 l0.length c0] ?_; (with_reducible refine (laws_toIntSS.calls k _ _ l0 t471 _ ?side1 ?side2 A41.out).mono ?_); (case side1 => exact cS (Kd.C_below HR0.out bS)); (case side2 => exact HC0.out); rintro e w329 ⟨v472, rfl, ho0, hb⟩; refine ⟨_, rfl, ?_⟩; obtain ⟨b473, HZ473, hz473⟩ := S_born ho0; have HL473 := Aside0.mk (show w.heap.size ≤ b473 from by rw [HZ473.out]; exact (below_size bS)); have HO473 := Aside0.mk (hz473); replace HO441 := Aside0.mk (S_oldB (by (with_reducible repeat (first | apply Kd.S_alloc | apply Kd.S_drewN | apply Kd.S_drew)); exact HO441.out) hb HZ473.out); replace HO444 := Aside0.mk (R_oldB (rS HO444) hb HZ473.out); replace HO452 := Aside0.mk (S_oldB (by (with_reducible repeat (first | apply Kd.S_alloc | apply Kd.S_drewN | apply Kd.S_drew)); exact HO452.out) hb HZ473.out); replace HO456 := Aside0.mk (S_oldB (by (with_reducible repeat (first | apply Kd.S_alloc | apply Kd.S_drewN | apply Kd.S_drew)); exact HO456.out) hb HZ473.out); replace HO459 := Aside0.mk (R_oldB (rS HO459) hb HZ473.out); replace HO468 := Aside0.mk (S_oldB (by (with_reducible repeat (first | apply Kd.S_alloc | apply Kd.S_drewN | apply Kd.S_drew)); exact HO468.out) hb HZ473.out); replace BK436 := kB (g := gb436) hb; replace BK465 := kB (g := gb465) hb; replace HB := hB hb; (try clear hb); (try clear hb2); (try clear hk); (try clear hi); (try clear ho0); obtain ⟨Ao330, co330, eo330⟩ := Kd.S_slice HO473.out; subst eo330) | ((with_reducible refine gC 54 ?_); refine cL (some 61) Try.func54 #[.slice Ao325 t454.length co325, .slice Ao330 t471.length co330] ?_; (with_reducible refine (laws_eqIntSS.calls k _ _ t454 _ _ t471 _ _ ?side1 ?side2 ?side3 ?side4 A42.out).mono ?_); (case side1 => exact cS (Kd.S_reads' HO456.out).2.2); (case side2 => exact (Kd.S_reads' HO456.out).2.1); (case side3 => exact cS (Kd.S_reads' HO473.out).2.2); (case side4 => exact (Kd.S_reads' HO473.out).2.1); rintro e w' ⟨rfl, ⟨nd, rfl⟩⟩; refine ⟨_, rfl, ?_⟩))
  (try (rw [drewN_self w329]; generalize hq_ : World.drewN w329 _ = w329; replace HO441 : Aside0 (Kd.S (Kd.slice 3 (Kd.int .i64)) 71 w329 b441 (fun k_ => ((((((True ∧ k_ < b444) ∧ k_ < b452) ∧ k_ < b456) ∧ k_ < b459) ∧ k_ < b468) ∧ k_ < b473)) (.slice Ao315 t439.length co315) t439) := ⟨by rw [← hq_]; exact (by (with_reducible repeat (first | apply Kd.S_alloc | apply Kd.S_drewN | apply Kd.S_drew)); exact HO441.out)⟩; replace HO444 : Aside0 (Kd.R k171 171 w329 b444 (fun k_ => (((((True ∧ k_ < b452) ∧ k_ < b456) ∧ k_ < b459) ∧ k_ < b468) ∧ k_ < b473)) (.slice Ao316 t442.length co316) t442) := ⟨by rw [← hq_]; exact (rS HO444)⟩; replace HO452 : Aside0 (Kd.S (Kd.slice 3 (Kd.int .i64)) 71 w329 b452 (fun k_ => ((((True ∧ k_ < b456) ∧ k_ < b459) ∧ k_ < b468) ∧ k_ < b473)) (.slice Ao328 t450.length co328) t450) := ⟨by rw [← hq_]; exact (by (with_reducible repeat (first | apply Kd.S_alloc | apply Kd.S_drewN | apply Kd.S_drew)); exact HO452.out)⟩; replace HO456 : Aside0 (Kd.S (Kd.slice 3 (Kd.int .i64)) 71 w329 b456 (fun k_ => (((True ∧ k_ < b459) ∧ k_ < b468) ∧ k_ < b473)) (.slice Ao325 t454.length co325) t454) := ⟨by rw [← hq_]; exact (by (with_reducible repeat (first | apply Kd.S_alloc | apply Kd.S_drewN | apply Kd.S_drew)); exact HO456.out)⟩; replace HO459 : Aside0 (Kd.R k171 171 w329 b459 (fun k_ => ((True ∧ k_ < b468) ∧ k_ < b473)) (.slice Ao322 t457.length co322) t457) := ⟨by rw [← hq_]; exact (rS HO459)⟩; replace HO468 : Aside0 (Kd.S (Kd.slice 3 (Kd.int .i64)) 71 w329 b468 (fun k_ => (True ∧ k_ < b473)) (.slice Ao327 t466.length co327) t466) := ⟨by rw [← hq_]; exact (by (with_reducible repeat (first | apply Kd.S_alloc | apply Kd.S_drewN | apply Kd.S_drew)); exact HO468.out)⟩; replace HO473 : Aside0 (Kd.S (Kd.slice 3 (Kd.int .i64)) 71 w329 b473 (fun _ => True) (.slice Ao330 t471.length co330) t471) := ⟨by rw [← hq_]; exact (by (with_reducible repeat (first | apply Kd.S_alloc | apply Kd.S_drewN | apply Kd.S_drew)); exact HO473.out)⟩; replace BK436 : Aside0 (w329.heap[gb436]? = some (.cells #[.slice A2_0 l2_0.length c2_0, .int .i64 a2_1, .int .i64 a2_2, .int .i64 a2_3, .int .i64 a2_4, .int .i64 a2_5] 38 (0, 0))) := ⟨by rw [← hq_]; exact kS⟩; replace BK465 : Aside0 (w329.heap[gb465]? = some (.cells #[.slice Ao322 t457.length co322, .int .i64 t460, .int .i64 t461, .int .i64 t462, .int .i64 t463, .int .i64 t464] 45 (0, 0))) := ⟨by rw [← hq_]; exact kS⟩; replace HB : Aside0 (Below w.heap.size w w329) := ⟨by rw [← hq_]; exact bS⟩; clear hq_))
  replace HO441 := Aside0.mk (Kd.S_drew HO441.out)
  replace HO444 := Aside0.mk (Kd.R_drew HO444.out)
  replace HO452 := Aside0.mk (Kd.S_drew HO452.out)
  replace HO456 := Aside0.mk (Kd.S_drew HO456.out)
  replace HO459 := Aside0.mk (Kd.R_drew HO459.out)
  replace HO468 := Aside0.mk (Kd.S_drew HO468.out)
  replace HO473 := Aside0.mk (Kd.S_drew HO473.out)
  replace BK436 := Aside0.mk (blk_drew BK436.out)
  replace BK465 := Aside0.mk (blk_drew BK465.out)
  replace HB := Aside0.mk (below_drew1 HB.out)
  refine start_ (n := 5) (S := fun w' => w'.cell? ⟨gb465, 0, none⟩ = some (.slice Ao322 t457.length co322) ∧ w'.cell? ⟨gb465, 1, none⟩ = some (.int .i64 t460) ∧ w'.cell? ⟨gb465, 2, none⟩ = some (.int .i64 t461) ∧ w'.cell? ⟨gb465, 3, none⟩ = some (.int .i64 t462) ∧ w'.cell? ⟨gb465, 4, none⟩ = some (.int .i64 t463) ∧ w'.cell? ⟨gb465, 5, none⟩ = some (.int .i64 t464) ∧ w'.cell? ⟨gb436, 0, none⟩ = some (.slice A2_0 l2_0.length c2_0) ∧ w'.cell? ⟨gb436, 1, none⟩ = some (.int .i64 a2_1) ∧ w'.cell? ⟨gb436, 2, none⟩ = some (.int .i64 a2_2) ∧ w'.cell? ⟨gb436, 3, none⟩ = some (.int .i64 a2_3) ∧ w'.cell? ⟨gb436, 4, none⟩ = some (.int .i64 a2_4) ∧ w'.cell? ⟨gb436, 5, none⟩ = some (.int .i64 a2_5)) (ds := []) #[false, false, false, false, false] (by kernel_rfl) rfl rfl ⟨(blk_cell BK465.out 0).trans rfl, (blk_cell BK465.out 1).trans rfl, (blk_cell BK465.out 2).trans rfl, (blk_cell BK465.out 3).trans rfl, (blk_cell BK465.out 4).trans rfl, (blk_cell BK465.out 5).trans rfl, (blk_cell BK436.out 0).trans rfl, (blk_cell BK436.out 1).trans rfl, (blk_cell BK436.out 2).trans rfl, (blk_cell BK436.out 3).trans rfl, (blk_cell BK436.out 4).trans rfl, (blk_cell BK436.out 5).trans rfl⟩ (fun hHeld => ?_)
  generalize w329.drew = w331 at HO441 HO444 HO452 HO456 HO459 HO468 HO473 BK436 BK465 HB hHeld ⊢
  refine take_ (i := 0) (N := some 63) (v := ?_) (a' := ?_) #[true, false, false, false, false] rfl rfl (by kernel_rfl) (fun _ _ _ h => h) (Or.inl ⟨by rfl, ?_⟩) hHeld ?_ ?_
  rotate_left
  · rintro w' ⟨s0, s1, s2, s3, s4, s5, s6, s7, s8, s9, s10, s11⟩
    go_simp
    with_reducible rfl
  rotate_left
  · simp only [Act.put, List.setIfInBounds_toArray, List.set_cons_zero, List.set_cons_succ, i64_w, i32_w]
    rfl
  refine take_ (i := 1) (N := some 64) (v := ?_) (a' := ?_) #[true, true, false, false, false] rfl rfl (by kernel_rfl) (fun _ _ _ h => h) (Or.inl ⟨by rfl, ?_⟩) hHeld ?_ ?_
  rotate_left
  · rintro w' ⟨s0, s1, s2, s3, s4, s5, s6, s7, s8, s9, s10, s11⟩
    go_simp
    with_reducible rfl
  rotate_left
  · simp only [Act.put, List.setIfInBounds_toArray, List.set_cons_zero, List.set_cons_succ, i64_w, i32_w]
    rfl
  refine one_ (i := 2) (N := some 65) #[true, true, true, false, false] rfl rfl (by kernel_rfl) (by decide) (fun K hK => ?_)
  refine goes_ Try.func25 (by kernel_rfl) rfl #[.agg #[.slice A2_0 l2_0.length c2_0, .int .i64 a2_1, .int .i64 a2_2, .int .i64 a2_3, .int .i64 a2_4, .int .i64 a2_5]] (by rfl) rfl rfl (by (try simp only [List.map_toArray, List.map_cons, List.map_nil]); first | done | rfl | (simp only [List.length_drop, List.length_take]; rfl)) ?_
  with_reducible refine (laws_toObject.calls k _ _ l2_0 a2_1 a2_2 a2_3 a2_4 a2_5 t475 t478 t479 t480 t481 t482 _ ?side1 ?side2 A44.out).mono ?_
  (case side1 => exact cS (Kd.C_below HR2_0.out HB.out))
  (case side2 => exact HC2_0.out)
  rintro e w332 ⟨v476, rfl, ho0, hb⟩
  refine ⟨_, rfl, ?_⟩
  obtain ⟨b477, HZ477, hz477⟩ := R_born ho0
  have HL477 := Aside0.mk (show w.heap.size ≤ b477 from by rw [HZ477.out]; exact (below_size bS))
  have HO477 := Aside0.mk (hz477)
  replace HO441 := Aside0.mk (S_oldB (by (with_reducible repeat (first | apply Kd.S_alloc | apply Kd.S_drewN | apply Kd.S_drew)); exact HO441.out) hb HZ477.out)
  replace HO444 := Aside0.mk (R_oldB (rS HO444) hb HZ477.out)
  replace HO452 := Aside0.mk (S_oldB (by (with_reducible repeat (first | apply Kd.S_alloc | apply Kd.S_drewN | apply Kd.S_drew)); exact HO452.out) hb HZ477.out)
  replace HO456 := Aside0.mk (S_oldB (by (with_reducible repeat (first | apply Kd.S_alloc | apply Kd.S_drewN | apply Kd.S_drew)); exact HO456.out) hb HZ477.out)
  replace HO459 := Aside0.mk (R_oldB (rS HO459) hb HZ477.out)
  replace HO468 := Aside0.mk (S_oldB (by (with_reducible repeat (first | apply Kd.S_alloc | apply Kd.S_drewN | apply Kd.S_drew)); exact HO468.out) hb HZ477.out)
  replace HO473 := Aside0.mk (S_oldB (by (with_reducible repeat (first | apply Kd.S_alloc | apply Kd.S_drewN | apply Kd.S_drew)); exact HO473.out) hb HZ477.out)
  replace BK436 := kB (g := gb436) hb
  replace BK465 := kB (g := gb465) hb
  replace HB := hB hb
  (try clear hb)
  (try clear hb2)
  (try clear hk)
  (try clear hi)
  (try clear ho0)
  obtain ⟨Ao333, co333, eo333⟩ := Kd.R_slice HO477.out
  (first | subst eo333 | (injection eo333 with f1_ f2_ f3_; have f4_ := f1_.symm; have f5_ := f3_.symm; clear f1_ f2_ f3_; subst f4_; subst f5_))
  refine hK.out _ _ ⟨(blk_cell BK465.out 0).trans rfl, (blk_cell BK465.out 1).trans rfl, (blk_cell BK465.out 2).trans rfl, (blk_cell BK465.out 3).trans rfl, (blk_cell BK465.out 4).trans rfl, (blk_cell BK465.out 5).trans rfl, (blk_cell BK436.out 0).trans rfl, (blk_cell BK436.out 1).trans rfl, (blk_cell BK436.out 2).trans rfl, (blk_cell BK436.out 3).trans rfl, (blk_cell BK436.out 4).trans rfl, (blk_cell BK436.out 5).trans rfl⟩ (fun hHeld => ?_)
  clear hK K
  refine norm_ (a' := ?_) ?_ ?_
  rotate_left
  · show Act.put _ (some 65) _ = _
    simp only [Act.put, List.setIfInBounds_toArray, List.set_cons_zero, List.set_cons_succ, i64_w, i32_w]
    rfl
  refine one_ (i := 3) (N := some 66) #[true, true, true, true, false] rfl rfl (by kernel_rfl) (by decide) (fun K hK => ?_)
  refine goes_ Try.func28 (by kernel_rfl) rfl #[.agg #[.slice Ao322 t457.length co322, .int .i64 t460, .int .i64 t461, .int .i64 t462, .int .i64 t463, .int .i64 t464], .agg #[.slice Ao333 t475.length co333, .int .i64 t478, .int .i64 t479, .int .i64 t480, .int .i64 t481, .int .i64 t482]] (by rfl) rfl rfl (by (try simp only [List.map_toArray, List.map_cons, List.map_nil]); first | done | rfl | (simp only [List.length_drop, List.length_take]; rfl)) ?_
  with_reducible refine (laws_eqObject.calls k _ _ t457 t460 t461 t462 t463 t464 _ _ t475 t478 t479 t480 t481 t482 _ _ ?side1 ?side2 ?side3 ?side4 A45.out).mono ?_
  (case side1 => exact cS (Kd.R_reads' HO459.out).2.2)
  (case side2 => exact (Kd.R_reads' HO459.out).2.1)
  (case side3 => exact cS (Kd.R_reads' HO477.out).2.2)
  (case side4 => exact (Kd.R_reads' HO477.out).2.1)
  rintro e w334 ⟨rfl, hb⟩
  refine ⟨_, rfl, ?_⟩
  replace HO441 := Aside0.mk (Kd.S_below (by (with_reducible repeat (first | apply Kd.S_alloc | apply Kd.S_drewN | apply Kd.S_drew)); exact HO441.out) hb)
  replace HO444 := Aside0.mk (Kd.R_below (rS HO444) hb)
  replace HO452 := Aside0.mk (Kd.S_below (by (with_reducible repeat (first | apply Kd.S_alloc | apply Kd.S_drewN | apply Kd.S_drew)); exact HO452.out) hb)
  replace HO456 := Aside0.mk (Kd.S_below (by (with_reducible repeat (first | apply Kd.S_alloc | apply Kd.S_drewN | apply Kd.S_drew)); exact HO456.out) hb)
  replace HO459 := Aside0.mk (Kd.R_below (rS HO459) hb)
  replace HO468 := Aside0.mk (Kd.S_below (by (with_reducible repeat (first | apply Kd.S_alloc | apply Kd.S_drewN | apply Kd.S_drew)); exact HO468.out) hb)
  replace HO473 := Aside0.mk (Kd.S_below (by (with_reducible repeat (first | apply Kd.S_alloc | apply Kd.S_drewN | apply Kd.S_drew)); exact HO473.out) hb)
  replace HO477 := Aside0.mk (Kd.R_below (rS HO477) hb)
  replace BK436 := kB (g := gb436) hb
  replace BK465 := kB (g := gb465) hb
  replace HB := hB hb
  (try clear hb)
  (try clear hb2)
  (try clear hk)
  (try clear hi)
  refine hK.out _ _ ⟨(blk_cell BK465.out 0).trans rfl, (blk_cell BK465.out 1).trans rfl, (blk_cell BK465.out 2).trans rfl, (blk_cell BK465.out 3).trans rfl, (blk_cell BK465.out 4).trans rfl, (blk_cell BK465.out 5).trans rfl, (blk_cell BK436.out 0).trans rfl, (blk_cell BK436.out 1).trans rfl, (blk_cell BK436.out 2).trans rfl, (blk_cell BK436.out 3).trans rfl, (blk_cell BK436.out 4).trans rfl, (blk_cell BK436.out 5).trans rfl⟩ (fun hHeld => ?_)
  clear hK K
  refine norm_ (a' := ?_) ?_ ?_
  rotate_left
  · show Act.put _ (some 66) _ = _
    simp only [Act.put, List.setIfInBounds_toArray, List.set_cons_zero, List.set_cons_succ, i64_w, i32_w]
    rfl
  refine pure_ (i := 4) (N := some 67) (v := ?_) (a' := ?_) #[true, true, true, true, true] rfl rfl (by kernel_rfl) (fun _ _ _ h => h) (Or.inl ⟨by rfl, ?_⟩) ?_ ?_
  rotate_left
  · intro w'
    go_simp
    with_reducible rfl
  rotate_left
  · simp only [Act.put, List.setIfInBounds_toArray, List.set_cons_zero, List.set_cons_succ, i64_w, i32_w]
    rfl
  refine done_ (by kernel_rfl) ?_
  try go_wp2_with (first | ((with_reducible refine gC 55 ?_); refine cL (some 70) Try.func55 #[.slice Ao325 t454.length co325, .int .i64 1] ?_; (with_reducible refine (laws_markIntSS.calls k (fun k_ => (w.heap.size ≤ k_ ∧ ∃ q_, q_ ∈ 71 :: (Kd.slice 3 (Kd.int .i64)).E ∧ ∃ c_, w334.heap[k_]? = some (.cells c_ q_ (0, 0))) ∧ b456 ≤ k_ ∧ k_ < b459 ∧ k_ < b468 ∧ k_ < b473 ∧ k_ < b477 ∧ True) (.slice Ao325 t454.length co325) t454 1 t484 t485 w _ ?side1 ?side2 A47.out).mono ?_); (case side1 => repeat (first | (with_reducible first | exact HB.out | apply below_alloc | apply pw_below_drewN | apply below_drew1 | refine below_set ?_ GE436.out | refine below_set ?_ GE465.out) | exact HB.out)); (case side2 => (with_reducible repeat (first | apply Kd.S_alloc | apply Kd.S_drewN | apply Kd.S_drew)); exact Kd.S_lower (Kd.S_mono (Kd.S_bound HO456.out) (fun k_ h_ => ⟨⟨Nat.le_trans HL456.out h_.2.1, h_.2.2.2⟩, h_.2.1, h_.1.1.1.1.2, h_.1.1.1.2, h_.1.1.2, h_.1.2, trivial⟩)) HL456.out); rintro e w335 ⟨rfl, hy0, hb, hkp⟩; refine ⟨_, rfl, ?_⟩; replace BK436 := Aside0.mk (blk_kept (g := gb436) kS hkp (fun hs_ => (fun e_ => typed_one (by exact BK436.out) e_.1.2 (by decide)) hs_)); replace HO441 := Aside0.mk (Kd.S_mono (ok' := fun k_ => k_ < b444 ∧ k_ < b452 ∧ k_ < b456 ∧ k_ < b459 ∧ k_ < b468 ∧ k_ < b473 ∧ k_ < b477) (Kd.S_keptB ((S_not (fun k_ => (w.heap.size ≤ k_ ∧ ∃ q_, q_ ∈ 71 :: (Kd.slice 3 (Kd.int .i64)).E ∧ ∃ c_, w334.heap[k_]? = some (.cells c_ q_ (0, 0))) ∧ b456 ≤ k_ ∧ k_ < b459 ∧ k_ < b468 ∧ k_ < b473 ∧ k_ < b477 ∧ True) HO441.out (fun k_ h_ e_ => Nat.not_le.2 (h_.1.1.1.1.1.2) e_.2.1))) hkp (fun k_ hk_ hs_ => (hk_.2) hs_)) (fun k_ hk_ => ⟨hk_.1.1.1.1.1.1.1.1.2, hk_.1.1.1.1.1.1.1.2, hk_.1.1.1.1.1.1.2, hk_.1.1.1.1.1.2, hk_.1.1.1.1.2, hk_.1.1.1.2, hk_.1.1.2⟩)); replace HO444 := Aside0.mk (Kd.R_mono (ok' := fun k_ => k_ < b452 ∧ k_ < b456 ∧ k_ < b459 ∧ k_ < b468 ∧ k_ < b473 ∧ k_ < b477) (Kd.R_keptB ((R_not (fun k_ => (w.heap.size ≤ k_ ∧ ∃ q_, q_ ∈ 71 :: (Kd.slice 3 (Kd.int .i64)).E ∧ ∃ c_, w334.heap[k_]? = some (.cells c_ q_ (0, 0))) ∧ b456 ≤ k_ ∧ k_ < b459 ∧ k_ < b468 ∧ k_ < b473 ∧ k_ < b477 ∧ True) HO444.out (fun k_ h_ e_ => Nat.not_le.2 (h_.1.1.1.1.1.2) e_.2.1))) hkp (fun k_ hk_ hs_ => (hk_.2) hs_)) (fun k_ hk_ => ⟨hk_.1.1.1.1.1.1.1.2, hk_.1.1.1.1.1.1.2, hk_.1.1.1.1.1.2, hk_.1.1.1.1.2, hk_.1.1.1.2, hk_.1.1.2⟩)); replace HO452 := Aside0.mk (Kd.S_mono (ok' := fun k_ => k_ < b456 ∧ k_ < b459 ∧ k_ < b468 ∧ k_ < b473 ∧ k_ < b477) (Kd.S_keptB ((S_not (fun k_ => (w.heap.size ≤ k_ ∧ ∃ q_, q_ ∈ 71 :: (Kd.slice 3 (Kd.int .i64)).E ∧ ∃ c_, w334.heap[k_]? = some (.cells c_ q_ (0, 0))) ∧ b456 ≤ k_ ∧ k_ < b459 ∧ k_ < b468 ∧ k_ < b473 ∧ k_ < b477 ∧ True) HO452.out (fun k_ h_ e_ => Nat.not_le.2 (h_.1.1.1.1.1.2) e_.2.1))) hkp (fun k_ hk_ hs_ => (hk_.2) hs_)) (fun k_ hk_ => ⟨hk_.1.1.1.1.1.1.2, hk_.1.1.1.1.1.2, hk_.1.1.1.1.2, hk_.1.1.1.2, hk_.1.1.2⟩)); replace HO456 := Aside0.mk (Kd.S_mono (ok' := fun _ => True) hy0 (fun _ _ => trivial)); replace HO459 := Aside0.mk (Kd.R_mono (ok' := fun k_ => k_ < b468 ∧ k_ < b473 ∧ k_ < b477) (Kd.R_keptB ((R_not (fun k_ => (w.heap.size ≤ k_ ∧ ∃ q_, q_ ∈ 71 :: (Kd.slice 3 (Kd.int .i64)).E ∧ ∃ c_, w334.heap[k_]? = some (.cells c_ q_ (0, 0))) ∧ b456 ≤ k_ ∧ k_ < b459 ∧ k_ < b468 ∧ k_ < b473 ∧ k_ < b477 ∧ True) HO459.out (fun k_ h_ e_ => Nat.not_lt.2 h_.2.1 (e_.2.2.1)))) hkp (fun k_ hk_ hs_ => (hk_.2) hs_)) (fun k_ hk_ => ⟨hk_.1.1.1.1.2, hk_.1.1.1.2, hk_.1.1.2⟩)); replace BK465 := Aside0.mk (blk_kept (g := gb465) kS hkp (fun hs_ => (fun e_ => typed_one (by exact BK465.out) e_.1.2 (by decide)) hs_)); replace HO468 := Aside0.mk (Kd.S_mono (ok' := fun k_ => k_ < b473 ∧ k_ < b477) (Kd.S_keptB ((S_not (fun k_ => (w.heap.size ≤ k_ ∧ ∃ q_, q_ ∈ 71 :: (Kd.slice 3 (Kd.int .i64)).E ∧ ∃ c_, w334.heap[k_]? = some (.cells c_ q_ (0, 0))) ∧ b456 ≤ k_ ∧ k_ < b459 ∧ k_ < b468 ∧ k_ < b473 ∧ k_ < b477 ∧ True) HO468.out (fun k_ h_ e_ => Nat.not_lt.2 h_.2.1 (e_.2.2.2.1)))) hkp (fun k_ hk_ hs_ => (hk_.2) hs_)) (fun k_ hk_ => ⟨hk_.1.1.1.2, hk_.1.1.2⟩)); replace HO473 := Aside0.mk (Kd.S_mono (ok' := fun k_ => k_ < b477) (Kd.S_keptB ((S_not (fun k_ => (w.heap.size ≤ k_ ∧ ∃ q_, q_ ∈ 71 :: (Kd.slice 3 (Kd.int .i64)).E ∧ ∃ c_, w334.heap[k_]? = some (.cells c_ q_ (0, 0))) ∧ b456 ≤ k_ ∧ k_ < b459 ∧ k_ < b468 ∧ k_ < b473 ∧ k_ < b477 ∧ True) HO473.out (fun k_ h_ e_ => Nat.not_lt.2 h_.2.1 (e_.2.2.2.2.1)))) hkp (fun k_ hk_ hs_ => (hk_.2) hs_)) (fun k_ hk_ => hk_.1.1.2)); replace HO477 := Aside0.mk (Kd.R_mono (ok' := fun k_ => True) (Kd.R_keptB ((R_not (fun k_ => (w.heap.size ≤ k_ ∧ ∃ q_, q_ ∈ 71 :: (Kd.slice 3 (Kd.int .i64)).E ∧ ∃ c_, w334.heap[k_]? = some (.cells c_ q_ (0, 0))) ∧ b456 ≤ k_ ∧ k_ < b459 ∧ k_ < b468 ∧ k_ < b473 ∧ k_ < b477 ∧ True) HO477.out (fun k_ h_ e_ => Nat.not_lt.2 h_.2.1 (e_.2.2.2.2.2.1)))) hkp (fun k_ hk_ hs_ => (hk_.2) hs_)) (fun k_ hk_ => trivial)); replace HB := Aside0.mk (hb); (try clear hb); (try clear hkp); (try clear hy0); have hz336 := cz6 BK465) | ((with_reducible refine gC 29 ?_); refine cL (some 73) Try.func29 #[.agg #[.slice Ao322 t457.length co322, .int .i64 t460, .int .i64 t461, .int .i64 t462, .int .i64 t463, .int .i64 t464], .int .i64 t484] ?_; (with_reducible refine (laws_markObject.calls k (fun k_ => some k_ = (.slice Ao322 t457.length co322 : Value).ownBlock) (.slice Ao322 t457.length co322) t457 t460 t461 t462 t463 t464 t484 t486 t487 w _ ?side1 ?side2 A48.out).mono ?_); (case side1 => repeat (first | (with_reducible first | exact HB.out | apply below_alloc | apply pw_below_drewN | apply below_drew1 | refine below_set ?_ GE436.out | refine below_set ?_ GE465.out) | exact HB.out)); (case side2 => exact Kd.R_lower (Kd.R_tight rfl HO459.out) HL459.out); rintro e w337 ⟨rfl, hy0, hb, hkp⟩; refine ⟨_, rfl, ?_⟩; replace BK436 := Aside0.mk (blk_kept (g := gb436) kS hkp (fun hs_ => (fun e_ => (Kd.R_ne HO459.out BK436.out (by decide)) e_) hs_)); replace HO441 := Aside0.mk (Kd.S_mono (ok' := fun k_ => k_ < b444 ∧ k_ < b452 ∧ k_ < b456 ∧ k_ < b459 ∧ k_ < b468 ∧ k_ < b473 ∧ k_ < b477) (Kd.S_keptB ((S_not (fun k_ => some k_ = (.slice Ao322 t457.length co322 : Value).ownBlock) HO441.out (fun k_ h_ e_ => Nat.not_le.2 (h_.1.2.2.2.1) (Kd.R_base HO459.out k_ e_.symm)))) hkp (fun k_ hk_ hs_ => (hk_.2) hs_)) (fun k_ hk_ => ⟨hk_.1.1.1, hk_.1.1.2.1, hk_.1.1.2.2.1, hk_.1.1.2.2.2.1, hk_.1.1.2.2.2.2.1, hk_.1.1.2.2.2.2.2.1, hk_.1.1.2.2.2.2.2.2⟩)); replace HO444 := Aside0.mk (Kd.R_mono (ok' := fun k_ => k_ < b452 ∧ k_ < b456 ∧ k_ < b459 ∧ k_ < b468 ∧ k_ < b473 ∧ k_ < b477) (Kd.R_keptB ((R_not (fun k_ => some k_ = (.slice Ao322 t457.length co322 : Value).ownBlock) HO444.out (fun k_ h_ e_ => Nat.not_le.2 (h_.1.2.2.1) (Kd.R_base HO459.out k_ e_.symm)))) hkp (fun k_ hk_ hs_ => (hk_.2) hs_)) (fun k_ hk_ => ⟨hk_.1.1.1, hk_.1.1.2.1, hk_.1.1.2.2.1, hk_.1.1.2.2.2.1, hk_.1.1.2.2.2.2.1, hk_.1.1.2.2.2.2.2⟩)); replace HO452 := Aside0.mk (Kd.S_mono (ok' := fun k_ => k_ < b456 ∧ k_ < b459 ∧ k_ < b468 ∧ k_ < b473 ∧ k_ < b477) (Kd.S_keptB ((S_not (fun k_ => some k_ = (.slice Ao322 t457.length co322 : Value).ownBlock) HO452.out (fun k_ h_ e_ => Nat.not_le.2 (h_.1.2.1) (Kd.R_base HO459.out k_ e_.symm)))) hkp (fun k_ hk_ hs_ => (hk_.2) hs_)) (fun k_ hk_ => ⟨hk_.1.1.1, hk_.1.1.2.1, hk_.1.1.2.2.1, hk_.1.1.2.2.2.1, hk_.1.1.2.2.2.2⟩)); replace BK465 := Aside0.mk (blk_kept (g := gb465) kS hkp (fun hs_ => (fun e_ => (Kd.R_ne HO459.out BK465.out (by decide)) e_) hs_)); replace HO468 := Aside0.mk (Kd.S_mono (ok' := fun k_ => k_ < b473 ∧ k_ < b477) (Kd.S_keptB ((S_not (fun k_ => some k_ = (.slice Ao322 t457.length co322 : Value).ownBlock) HO468.out (fun k_ h_ e_ => Nat.not_lt.2 h_.2.1 ((HO459.out.1 k_ e_.symm).1)))) hkp (fun k_ hk_ hs_ => (hk_.2) hs_)) (fun k_ hk_ => ⟨hk_.1.1.1, hk_.1.1.2⟩)); replace HO473 := Aside0.mk (Kd.S_mono (ok' := fun k_ => k_ < b477) (Kd.S_keptB ((S_not (fun k_ => some k_ = (.slice Ao322 t457.length co322 : Value).ownBlock) HO473.out (fun k_ h_ e_ => Nat.not_lt.2 h_.2.1 ((HO459.out.1 k_ e_.symm).2.1)))) hkp (fun k_ hk_ hs_ => (hk_.2) hs_)) (fun k_ hk_ => hk_.1.1)); replace HO477 := Aside0.mk (Kd.R_mono (ok' := fun k_ => True) (Kd.R_keptB ((R_not (fun k_ => some k_ = (.slice Ao322 t457.length co322 : Value).ownBlock) HO477.out (fun k_ h_ e_ => Nat.not_lt.2 h_.2.1 ((HO459.out.1 k_ e_.symm).2.2)))) hkp (fun k_ hk_ hs_ => (hk_.2) hs_)) (fun k_ hk_ => trivial)); replace HO459 := Aside0.mk (Kd.R_reok rfl hy0 (fun k_ e_ => HO459.out.1 k_ e_)); replace HB := Aside0.mk (hb); clear HO456; (try clear hb); (try clear hkp); (try clear hy0)) | (go_at_call 54; (with_reducible refine (laws_eqIntSS.calls k _ _ t466 _ _ t450 _ _ ?side1 ?side2 ?side3 ?side4 A79.out).mono ?_); (case side1 => exact cS (Kd.S_reads' HO468.out).2.2); (case side2 => exact (Kd.S_reads' HO468.out).2.1); (case side3 => exact cS (Kd.S_reads' HO452.out).2.2); (case side4 => exact (Kd.S_reads' HO452.out).2.1); rintro e w' ⟨rfl, ⟨nd, rfl⟩⟩) | ((with_reducible refine gC 55 ?_); refine cL (some 89) Try.func55 #[.slice Ao327 t466.length co327, .int .i64 1] ?_; (with_reducible refine (laws_markIntSS.calls k (fun k_ => (w.heap.size ≤ k_ ∧ ∃ q_, q_ ∈ 71 :: (Kd.slice 3 (Kd.int .i64)).E ∧ ∃ c_, w337.heap[k_]? = some (.cells c_ q_ (0, 0))) ∧ b468 ≤ k_ ∧ k_ < b473 ∧ k_ < b477 ∧ True) (.slice Ao327 t466.length co327) t466 1 t489 t490 w _ ?side1 ?side2 A81.out).mono ?_); (case side1 => repeat (first | (with_reducible first | exact HB.out | apply below_alloc | apply pw_below_drewN | apply below_drew1 | refine below_set ?_ GE436.out | refine below_set ?_ GE465.out) | exact HB.out)); (case side2 => (with_reducible repeat (first | apply Kd.S_alloc | apply Kd.S_drewN | apply Kd.S_drew)); exact Kd.S_lower (Kd.S_mono (Kd.S_bound HO468.out) (fun k_ h_ => ⟨⟨Nat.le_trans HL468.out h_.2.1, h_.2.2.2⟩, h_.2.1, h_.1.1, h_.1.2, trivial⟩)) HL468.out); rintro e w338 ⟨rfl, hy0, hb, hkp⟩; refine ⟨_, rfl, ?_⟩; replace BK436 := Aside0.mk (blk_kept (g := gb436) kS hkp (fun hs_ => (fun e_ => typed_one (by exact BK436.out) e_.1.2 (by decide)) hs_)); replace HO441 := Aside0.mk (Kd.S_mono (ok' := fun k_ => k_ < b444 ∧ k_ < b452 ∧ k_ < b459 ∧ k_ < b468 ∧ k_ < b473 ∧ k_ < b477) (Kd.S_keptB ((S_not (fun k_ => (w.heap.size ≤ k_ ∧ ∃ q_, q_ ∈ 71 :: (Kd.slice 3 (Kd.int .i64)).E ∧ ∃ c_, w337.heap[k_]? = some (.cells c_ q_ (0, 0))) ∧ b468 ≤ k_ ∧ k_ < b473 ∧ k_ < b477 ∧ True) HO441.out (fun k_ h_ e_ => Nat.not_le.2 (h_.1.2.2.2.2.1) e_.2.1))) hkp (fun k_ hk_ hs_ => (hk_.2) hs_)) (fun k_ hk_ => ⟨hk_.1.1.1, hk_.1.1.2.1, hk_.1.1.2.2.2.1, hk_.1.1.2.2.2.2.1, hk_.1.1.2.2.2.2.2.1, hk_.1.1.2.2.2.2.2.2⟩)); replace HO444 := Aside0.mk (Kd.R_mono (ok' := fun k_ => k_ < b452 ∧ k_ < b459 ∧ k_ < b468 ∧ k_ < b473 ∧ k_ < b477) (Kd.R_keptB ((R_not (fun k_ => (w.heap.size ≤ k_ ∧ ∃ q_, q_ ∈ 71 :: (Kd.slice 3 (Kd.int .i64)).E ∧ ∃ c_, w337.heap[k_]? = some (.cells c_ q_ (0, 0))) ∧ b468 ≤ k_ ∧ k_ < b473 ∧ k_ < b477 ∧ True) HO444.out (fun k_ h_ e_ => Nat.not_le.2 (h_.1.2.2.2.1) e_.2.1))) hkp (fun k_ hk_ hs_ => (hk_.2) hs_)) (fun k_ hk_ => ⟨hk_.1.1.1, hk_.1.1.2.2.1, hk_.1.1.2.2.2.1, hk_.1.1.2.2.2.2.1, hk_.1.1.2.2.2.2.2⟩)); replace HO452 := Aside0.mk (Kd.S_mono (ok' := fun k_ => k_ < b459 ∧ k_ < b468 ∧ k_ < b473 ∧ k_ < b477) (Kd.S_keptB ((S_not (fun k_ => (w.heap.size ≤ k_ ∧ ∃ q_, q_ ∈ 71 :: (Kd.slice 3 (Kd.int .i64)).E ∧ ∃ c_, w337.heap[k_]? = some (.cells c_ q_ (0, 0))) ∧ b468 ≤ k_ ∧ k_ < b473 ∧ k_ < b477 ∧ True) HO452.out (fun k_ h_ e_ => Nat.not_le.2 (h_.1.2.2.1) e_.2.1))) hkp (fun k_ hk_ hs_ => (hk_.2) hs_)) (fun k_ hk_ => ⟨hk_.1.1.2.1, hk_.1.1.2.2.1, hk_.1.1.2.2.2.1, hk_.1.1.2.2.2.2⟩)); replace BK465 := Aside0.mk (blk_kept (g := gb465) kS hkp (fun hs_ => (fun e_ => typed_one (by exact BK465.out) e_.1.2 (by decide)) hs_)); replace HO468 := Aside0.mk (Kd.S_mono (ok' := fun _ => True) hy0 (fun _ _ => trivial)); replace HO473 := Aside0.mk (Kd.S_mono (ok' := fun k_ => k_ < b477) (Kd.S_keptB ((S_not (fun k_ => (w.heap.size ≤ k_ ∧ ∃ q_, q_ ∈ 71 :: (Kd.slice 3 (Kd.int .i64)).E ∧ ∃ c_, w337.heap[k_]? = some (.cells c_ q_ (0, 0))) ∧ b468 ≤ k_ ∧ k_ < b473 ∧ k_ < b477 ∧ True) HO473.out (fun k_ h_ e_ => Nat.not_lt.2 h_.2.1 (e_.2.2.1)))) hkp (fun k_ hk_ hs_ => (hk_.2) hs_)) (fun k_ hk_ => hk_.1.1)); replace HO477 := Aside0.mk (Kd.R_mono (ok' := fun k_ => True) (Kd.R_keptB ((R_not (fun k_ => (w.heap.size ≤ k_ ∧ ∃ q_, q_ ∈ 71 :: (Kd.slice 3 (Kd.int .i64)).E ∧ ∃ c_, w337.heap[k_]? = some (.cells c_ q_ (0, 0))) ∧ b468 ≤ k_ ∧ k_ < b473 ∧ k_ < b477 ∧ True) HO477.out (fun k_ h_ e_ => Nat.not_lt.2 h_.2.1 (e_.2.2.2.1)))) hkp (fun k_ hk_ hs_ => (hk_.2) hs_)) (fun k_ hk_ => trivial)); replace HB := Aside0.mk (hb); clear HO459; (try clear hb); (try clear hkp); (try clear hy0)) | ((with_reducible refine gC 56 ?_); refine goesL_ (some 92) rfl rfl Try.func56 (by kernel_rfl) rfl #[.slice Ao327 t490.length co327, .int .i64 1] rfl (by (try simp only [List.map_toArray, List.map_cons, List.map_nil]); first | done | (rw [show t490.length = t466.length from (Kd.S_reads' HO468.out).1.symm] <;> rfl) | rfl | (simp only [List.length_drop, List.length_take]; rfl)) ?_; (with_reducible refine (laws_heldIntSS.calls k _ _ t490 1 t491 _ ?side1 ?side2 A82.out).mono ?_); (case side1 => exact cS (Kd.S_reads' HO468.out).2.2); (case side2 => rw [show t490.length = t466.length from (Kd.S_reads' HO468.out).1.symm]; exact (Kd.S_reads' HO468.out).2.1); rintro e w' ⟨rfl, ⟨nd, rfl⟩⟩; refine ⟨_, rfl, ?_⟩))
  go_ret
  exact ⟨eS, bS⟩) : p := h
theorem laws_FnExactPaintObject.lf3 {p : Prop} (h : p := by
  go_enter Try.func9, Try.ntmps9
  try go_wp2_with (first | ((with_reducible refine gD 5 ?_); refine bxE #[.slice A2_0 l2_0.length c2_0, .int .i64 a2_1, .int .i64 a2_2, .int .i64 a2_3, .int .i64 a2_4, .int .i64 a2_5] 38 ?_; intro gb436 hg w160 BK436 hb; have GW436 := gE hg; have GE436 := gE hg; replace HB := hB hb; clear hb hg) | ((with_reducible refine gC 50 ?_); refine cL (some 21) Try.func50 #[.slice A0 l0.length c0, .int .i64 1048576] ?_; (with_reducible refine (laws_szIntSS.calls k _ _ l0 1048576 t437 _ ?side1 ?side2 A4.out).mono ?_); (case side1 => exact cS (Kd.C_below HR0.out HB.out)); (case side2 => exact HC0.out); rintro e w' ⟨rfl, ⟨nd, rfl⟩⟩; refine ⟨_, rfl, ?_⟩; (try (rw [drewN_self w160]; generalize hq_ : World.drewN w160 _ = w160; replace BK436 : Aside0 (w160.heap[gb436]? = some (.cells #[.slice A2_0 l2_0.length c2_0, .int .i64 a2_1, .int .i64 a2_2, .int .i64 a2_3, .int .i64 a2_4, .int .i64 a2_5] 38 (0, 0))) := ⟨by rw [← hq_]; exact kS⟩; replace HB : Aside0 (Below w.heap.size w w160) := ⟨by rw [← hq_]; exact bS⟩; clear hq_)); have hz161 := cz6 BK436) | ((with_reducible refine gC 23 ?_); refine cL (some 26) Try.func23 #[.agg #[.slice A2_0 l2_0.length c2_0, .int .i64 a2_1, .int .i64 a2_2, .int .i64 a2_3, .int .i64 a2_4, .int .i64 a2_5], .int .i64 t437] ?_; (with_reducible refine (laws_szObject.calls _ _ l2_0 a2_1 a2_2 a2_3 a2_4 a2_5 t437 t438 _ ?side1 ?side2 A7.out).mono ?_); (case side1 => exact cS (Kd.C_below HR2_0.out HB.out)); (case side2 => exact HC2_0.out); rintro e w162 ⟨rfl, hb⟩; refine ⟨_, rfl, ?_⟩; replace BK436 := kB (g := gb436) hb; replace HB := hB hb; (try clear hb); (try clear hb2); (try clear hk); (try clear hi)))
  replace BK436 := Aside0.mk (blk_drew BK436.out)
  replace HB := Aside0.mk (below_drew1 HB.out)
  refine start_ (n := 11) (S := fun w' => w'.cell? ⟨gb436, 0, none⟩ = some (.slice A2_0 l2_0.length c2_0) ∧ w'.cell? ⟨gb436, 1, none⟩ = some (.int .i64 a2_1) ∧ w'.cell? ⟨gb436, 2, none⟩ = some (.int .i64 a2_2) ∧ w'.cell? ⟨gb436, 3, none⟩ = some (.int .i64 a2_3) ∧ w'.cell? ⟨gb436, 4, none⟩ = some (.int .i64 a2_4) ∧ w'.cell? ⟨gb436, 5, none⟩ = some (.int .i64 a2_5)) (ds := []) #[false, false, false, false, false, false, false, false, false, false, false] (by kernel_rfl) rfl rfl ⟨(blk_cell BK436.out 0).trans rfl, (blk_cell BK436.out 1).trans rfl, (blk_cell BK436.out 2).trans rfl, (blk_cell BK436.out 3).trans rfl, (blk_cell BK436.out 4).trans rfl, (blk_cell BK436.out 5).trans rfl⟩ (fun hHeld => ?_); refine with_tabW laws_FnExactPaintObject.tab8 laws_FnExactPaintObject.bits8 (fun HT_ HW_ => ?_)
  generalize w162.drew = w163 at BK436 HB hHeld ⊢
  refine pure_ (i := 0) (N := some 30) (v := ?_) (a' := ?_) #[true, false, false, false, false, false, false, false, false, false, false] rfl rfl (any_of HT_.out (by kernel_rfl)) (fun _ _ _ h => h) (Or.inl ⟨by rfl, ?_⟩) ?_ ?_
  rotate_left
  · intro w'
    go_simp
    with_reducible rfl
  rotate_left
  · simp only [Act.put, List.setIfInBounds_toArray, List.set_cons_zero, List.set_cons_succ, i64_w, i32_w]
    rfl
  refine pure_ (i := 2) (N := some 32) (v := ?_) (a' := ?_) #[true, false, true, false, false, false, false, false, false, false, false] rfl rfl (any_of HT_.out (by kernel_rfl)) (fun _ _ _ h => h) (Or.inl ⟨by rfl, ?_⟩) ?_ ?_
  rotate_left
  · intro w'
    go_simp
    with_reducible rfl
  rotate_left
  · simp only [Act.put, List.setIfInBounds_toArray, List.set_cons_zero, List.set_cons_succ, i64_w, i32_w]
    rfl
  refine take_ (i := 3) (N := some 33) (v := ?_) (a' := ?_) #[true, false, true, true, false, false, false, false, false, false, false] rfl rfl (take_ofW HT_.out HW_.out (by kernel_rfl)) (fun _ _ _ h => h) (Or.inl ⟨by rfl, ?_⟩) hHeld ?_ ?_
  rotate_left
  · rintro w' ⟨s0, s1, s2, s3, s4, s5⟩
    go_simp
    with_reducible rfl
  rotate_left
  · simp only [Act.put, List.setIfInBounds_toArray, List.set_cons_zero, List.set_cons_succ, i64_w, i32_w]
    rfl
  refine one_ (i := 1) (N := some 31) #[true, true, true, true, false, false, false, false, false, false, false] rfl rfl (one_of HT_.out (by kernel_rfl)) (by decide) (fun K hK => ?_)
  refine goes_ Try.func52 (by kernel_rfl) rfl #[.slice A0 l0.length c0] (by rfl) rfl rfl (by (try simp only [List.map_toArray, List.map_cons, List.map_nil]); first | done | rfl | (simp only [List.length_drop, List.length_take]; rfl)) ?_
  with_reducible refine (laws_toIntSS.calls k _ _ l0 t439 _ ?side1 ?side2 A12.out).mono ?_
  (case side1 => exact cS (Kd.C_below HR0.out HB.out))
  (case side2 => exact HC0.out)
  rintro e w164 ⟨v440, rfl, ho0, hb⟩
  refine ⟨_, rfl, ?_⟩
  obtain ⟨b441, HZ441, hz441⟩ := S_born ho0
  have HL441 := Aside0.mk (show w.heap.size ≤ b441 from by rw [HZ441.out]; exact (below_size bS))
  have HO441 := Aside0.mk (hz441)
  replace BK436 := kB (g := gb436) hb
  replace HB := hB hb
  (try clear hb)
  (try clear hb2)
  (try clear hk)
  (try clear hi)
  (try clear ho0)
  refine hK.out _ _ ⟨(blk_cell BK436.out 0).trans rfl, (blk_cell BK436.out 1).trans rfl, (blk_cell BK436.out 2).trans rfl, (blk_cell BK436.out 3).trans rfl, (blk_cell BK436.out 4).trans rfl, (blk_cell BK436.out 5).trans rfl⟩ (fun hHeld => ?_)
  clear hK K
  refine norm_ (a' := ?_) ?_ ?_
  rotate_left
  · show Act.put _ (some 31) _ = _
    simp only [Act.put, List.setIfInBounds_toArray, List.set_cons_zero, List.set_cons_succ, i64_w, i32_w]
    rfl
  refine one_ (i := 4) (N := some 34) #[true, true, true, true, true, false, false, false, false, false, false] rfl rfl (one_of HT_.out (by kernel_rfl)) (by decide) (fun K hK => ?_)
  refine goes_ Try.func25 (by kernel_rfl) rfl #[.agg #[.slice A2_0 l2_0.length c2_0, .int .i64 a2_1, .int .i64 a2_2, .int .i64 a2_3, .int .i64 a2_4, .int .i64 a2_5]] (by rfl) rfl rfl (by (try simp only [List.map_toArray, List.map_cons, List.map_nil]); first | done | rfl | (simp only [List.length_drop, List.length_take]; rfl)) ?_
  with_reducible refine (laws_toObject.calls k _ _ l2_0 a2_1 a2_2 a2_3 a2_4 a2_5 t442 t445 t446 t447 t448 t449 _ ?side1 ?side2 A13.out).mono ?_
  (case side1 => exact cS (Kd.C_below HR2_0.out HB.out))
  (case side2 => exact HC2_0.out)
  rintro e w165 ⟨v443, rfl, ho0, hb⟩
  refine ⟨_, rfl, ?_⟩
  obtain ⟨b444, HZ444, hz444⟩ := R_born ho0
  have HL444 := Aside0.mk (show w.heap.size ≤ b444 from by rw [HZ444.out]; exact (below_size bS))
  have HO444 := Aside0.mk (hz444)
  replace HO441 := Aside0.mk (S_oldB (by (with_reducible repeat (first | apply Kd.S_alloc | apply Kd.S_drewN | apply Kd.S_drew)); exact HO441.out) hb HZ444.out)
  replace BK436 := kB (g := gb436) hb
  replace HB := hB hb
  (try clear hb)
  (try clear hb2)
  (try clear hk)
  (try clear hi)
  (try clear ho0)
  obtain ⟨Ao166, co166, eo166⟩ := Kd.S_slice HO441.out
  (first | subst eo166 | (injection eo166 with f1_ f2_ f3_; have f4_ := f1_.symm; have f5_ := f3_.symm; clear f1_ f2_ f3_; subst f4_; subst f5_))
  obtain ⟨Ao167, co167, eo167⟩ := Kd.R_slice HO444.out
  (first | subst eo167 | (injection eo167 with f1_ f2_ f3_; have f4_ := f1_.symm; have f5_ := f3_.symm; clear f1_ f2_ f3_; subst f4_; subst f5_))
  refine hK.out _ _ ⟨(blk_cell BK436.out 0).trans rfl, (blk_cell BK436.out 1).trans rfl, (blk_cell BK436.out 2).trans rfl, (blk_cell BK436.out 3).trans rfl, (blk_cell BK436.out 4).trans rfl, (blk_cell BK436.out 5).trans rfl⟩ (fun hHeld => ?_)
  clear hK K
  refine norm_ (a' := ?_) ?_ ?_
  rotate_left
  · show Act.put _ (some 34) _ = _
    simp only [Act.put, List.setIfInBounds_toArray, List.set_cons_zero, List.set_cons_succ, i64_w, i32_w]
    rfl
  refine one_ (i := 5) (N := some 35) #[true, true, true, true, true, true, false, false, false, false, false] rfl rfl (one_of HT_.out (by kernel_rfl)) (by decide) (fun K hK => ?_)
  refine goes_ Try.func51 (by kernel_rfl) rfl #[.slice Ao166 t439.length co166, .int .i64 a1, .agg #[.slice Ao167 t442.length co167, .int .i64 t445, .int .i64 t446, .int .i64 t447, .int .i64 t448, .int .i64 t449]] (by rfl) rfl rfl (by (try simp only [List.map_toArray, List.map_cons, List.map_nil]); first | done | rfl | (simp only [List.length_drop, List.length_take]; rfl)) ?_
  with_reducible refine (spec_PaintObject.calls k _ _ t439 a1 _ _ t442 t445 t446 t447 t448 t449 t450 t453 _ ?side1 ?side2 ?side3 ?side4 A14.out).mono ?_
  (case side1 => exact cS (Kd.S_reads' HO441.out).2.2)
  (case side2 => exact (Kd.S_reads' HO441.out).2.1)
  (case side3 => exact cS (Kd.R_reads' HO444.out).2.2)
  (case side4 => exact (Kd.R_reads' HO444.out).2.1)
  rintro e w168 ⟨v451, rfl, ho0, hb⟩
  refine ⟨_, rfl, ?_⟩
  obtain ⟨b452, HZ452, hz452⟩ := S_born ho0
  have HL452 := Aside0.mk (show w.heap.size ≤ b452 from by rw [HZ452.out]; exact (below_size bS))
  have HO452 := Aside0.mk (hz452)
  replace HO441 := Aside0.mk (S_oldB (by (with_reducible repeat (first | apply Kd.S_alloc | apply Kd.S_drewN | apply Kd.S_drew)); exact HO441.out) hb HZ452.out)
  replace HO444 := Aside0.mk (R_oldB (rS HO444) hb HZ452.out)
  replace BK436 := kB (g := gb436) hb
  replace HB := hB hb
  (try clear hb)
  (try clear hb2)
  (try clear hk)
  (try clear hi)
  (try clear ho0)
  refine hK.out _ _ ⟨(blk_cell BK436.out 0).trans rfl, (blk_cell BK436.out 1).trans rfl, (blk_cell BK436.out 2).trans rfl, (blk_cell BK436.out 3).trans rfl, (blk_cell BK436.out 4).trans rfl, (blk_cell BK436.out 5).trans rfl⟩ (fun hHeld => ?_)
  clear hK K
  refine norm_ (a' := ?_) ?_ ?_
  rotate_left
  · show Act.put _ (some 35) _ = _
    simp only [Act.put, List.setIfInBounds_toArray, List.set_cons_zero, List.set_cons_succ, i64_w, i32_w]
    rfl
  refine pure_ (i := 6) (N := some 29) (v := ?_) (a' := ?_) #[true, true, true, true, true, true, true, false, false, false, false] rfl rfl (any_of HT_.out (by kernel_rfl)) (fun _ _ _ h => h) (Or.inl ⟨by rfl, ?_⟩) ?_ ?_
  rotate_left
  · intro w'
    go_simp
    with_reducible rfl
  rotate_left
  · simp only [Act.put, List.setIfInBounds_toArray, List.set_cons_zero, List.set_cons_succ, i64_w, i32_w]
    rfl
  refine pure_ (i := 7) (N := some 36) (v := ?_) (a' := ?_) #[true, true, true, true, true, true, true, true, false, false, false] rfl rfl (any_of HT_.out (by kernel_rfl)) (fun _ _ _ h => h) (Or.inl ⟨by rfl, ?_⟩) ?_ ?_
  rotate_left
  · intro w'
    go_simp
    with_reducible rfl
  rotate_left
  · simp only [Act.put, List.setIfInBounds_toArray, List.set_cons_zero, List.set_cons_succ, i64_w, i32_w]
    rfl
  refine pure_ (i := 8) (N := some 37) (v := ?_) (a' := ?_) #[true, true, true, true, true, true, true, true, true, false, false] rfl rfl (any_of HT_.out (by kernel_rfl)) (fun _ _ _ h => h) (Or.inl ⟨by rfl, ?_⟩) ?_ ?_
  rotate_left
  · intro w'
    go_simp
    with_reducible rfl
  rotate_left
  · simp only [Act.put, List.setIfInBounds_toArray, List.set_cons_zero, List.set_cons_succ, i64_w, i32_w]
    rfl
  refine pure_ (i := 9) (N := some 8) (v := ?_) (a' := ?_) #[true, true, true, true, true, true, true, true, true, true, false] rfl rfl (any_of HT_.out (by kernel_rfl)) (fun _ _ _ h => h) (Or.inl ⟨by rfl, ?_⟩) ?_ ?_
  rotate_left
  · intro w'
    go_simp
    with_reducible rfl
  rotate_left
  · simp only [Act.put, List.setIfInBounds_toArray, List.set_cons_zero, List.set_cons_succ, i64_w, i32_w]
    rfl
  refine pure_ (i := 10) (N := some 9) (v := ?_) (a' := ?_) #[true, true, true, true, true, true, true, true, true, true, true] rfl rfl (any_of HT_.out (by kernel_rfl)) (fun _ _ _ h => h) (Or.inl ⟨by rfl, ?_⟩) ?_ ?_
  rotate_left
  · intro w'
    go_simp
    with_reducible rfl
  rotate_left
  · simp only [Act.put, List.setIfInBounds_toArray, List.set_cons_zero, List.set_cons_succ, i64_w, i32_w]
    rfl
  refine done_ (done_of HT_.out (by kernel_rfl)) ?_
  try go_wp2_with (first | ((with_reducible refine gC 52 ?_); refine cL (some 39) Try.func52 #[.slice A0 l0.length c0] ?_; (with_reducible refine (laws_toIntSS.calls k _ _ l0 t454 _ ?side1 ?side2 A15.out).mono ?_); (case side1 => exact cS (Kd.C_below HR0.out HB.out)); (case side2 => exact HC0.out); rintro e w169 ⟨v455, rfl, ho0, hb⟩; refine ⟨_, rfl, ?_⟩; obtain ⟨b456, HZ456, hz456⟩ := S_born ho0; have HL456 := Aside0.mk (show w.heap.size ≤ b456 from by rw [HZ456.out]; exact (below_size bS)); have HO456 := Aside0.mk (hz456); replace HO441 := Aside0.mk (S_oldB (by (with_reducible repeat (first | apply Kd.S_alloc | apply Kd.S_drewN | apply Kd.S_drew)); exact HO441.out) hb HZ456.out); replace HO444 := Aside0.mk (R_oldB (rS HO444) hb HZ456.out); replace HO452 := Aside0.mk (S_oldB (by (with_reducible repeat (first | apply Kd.S_alloc | apply Kd.S_drewN | apply Kd.S_drew)); exact HO452.out) hb HZ456.out); replace BK436 := kB (g := gb436) hb; replace HB := hB hb; (try clear hb); (try clear hb2); (try clear hk); (try clear hi); (try clear ho0); have hz170 := cz6 BK436) | ((with_reducible refine gC 25 ?_); refine cL (some 41) Try.func25 #[.agg #[.slice A2_0 l2_0.length c2_0, .int .i64 a2_1, .int .i64 a2_2, .int .i64 a2_3, .int .i64 a2_4, .int .i64 a2_5]] ?_; (with_reducible refine (laws_toObject.calls k _ _ l2_0 a2_1 a2_2 a2_3 a2_4 a2_5 t457 t460 t461 t462 t463 t464 _ ?side1 ?side2 A16.out).mono ?_); (case side1 => exact cS (Kd.C_below HR2_0.out HB.out)); (case side2 => exact HC2_0.out); rintro e w171 ⟨v458, rfl, ho0, hb⟩; refine ⟨_, rfl, ?_⟩; obtain ⟨b459, HZ459, hz459⟩ := R_born ho0; have HL459 := Aside0.mk (show w.heap.size ≤ b459 from by rw [HZ459.out]; exact (below_size bS)); have HO459 := Aside0.mk (hz459); replace HO441 := Aside0.mk (S_oldB (by (with_reducible repeat (first | apply Kd.S_alloc | apply Kd.S_drewN | apply Kd.S_drew)); exact HO441.out) hb HZ459.out); replace HO444 := Aside0.mk (R_oldB (rS HO444) hb HZ459.out); replace HO452 := Aside0.mk (S_oldB (by (with_reducible repeat (first | apply Kd.S_alloc | apply Kd.S_drewN | apply Kd.S_drew)); exact HO452.out) hb HZ459.out); replace HO456 := Aside0.mk (S_oldB (by (with_reducible repeat (first | apply Kd.S_alloc | apply Kd.S_drewN | apply Kd.S_drew)); exact HO456.out) hb HZ459.out); replace BK436 := kB (g := gb436) hb; replace HB := hB hb; (try clear hb); (try clear hb2); (try clear hk); (try clear hi); (try clear ho0)) | ((with_reducible refine gD 11 ?_); refine bxE #[.slice none 0 0, .int .i64 0, .int .i64 0, .int .i64 0, .int .i64 0, .int .i64 0] 45 ?_; intro gb465 hg w172 BK465 hb; have GW465 := gE hg; have GE465 := gE hg; have NB436_465 := nL (g := gb436) hg; have NB465_436 := nG (g := gb436) hg; replace HO441 := Aside0.mk (Kd.S_below (by (with_reducible repeat (first | apply Kd.S_alloc | apply Kd.S_drewN | apply Kd.S_drew)); exact HO441.out) hb); replace HO444 := Aside0.mk (Kd.R_below (rS HO444) hb); replace HO452 := Aside0.mk (Kd.S_below (by (with_reducible repeat (first | apply Kd.S_alloc | apply Kd.S_drewN | apply Kd.S_drew)); exact HO452.out) hb); replace HO456 := Aside0.mk (Kd.S_below (by (with_reducible repeat (first | apply Kd.S_alloc | apply Kd.S_drewN | apply Kd.S_drew)); exact HO456.out) hb); replace HO459 := Aside0.mk (Kd.R_below (rS HO459) hb); replace BK436 := kB (g := gb436) hb; replace HB := hB hb; clear hb hg; obtain ⟨Ao173, co173, eo173⟩ := Kd.R_slice HO459.out; subst eo173; have hnb174 := NB465_436.out; have hnc174 := NB436_465.out; have hz175 := cz6 BK465; obtain ⟨Ao176, co176, eo176⟩ := Kd.S_slice HO456.out; subst eo176) | ((with_reducible refine gC 53 ?_); refine cL (some 46) Try.func53 #[.slice Ao176 t454.length co176, .int .i64 a1, .agg #[.slice Ao173 t457.length co173, .int .i64 t460, .int .i64 t461, .int .i64 t462, .int .i64 t463, .int .i64 t464]] ?_; (with_reducible refine (impl_PaintObject.calls k _ _ t454 a1 _ _ t457 t460 t461 t462 t463 t464 t466 t469 _ ?side1 ?side2 ?side3 ?side4 A17.out).mono ?_); (case side1 => exact (Kd.S_reads' (e := 71) (n := t454.length) (c := co176) (by (with_reducible repeat (first | apply Kd.S_alloc | apply Kd.S_drewN | apply Kd.S_drew)); exact (Kd.S_mono (Kd.S_far (p := ⟨gb465, 5, none⟩) (Kd.S_far (p := ⟨gb465, 4, none⟩) (Kd.S_far (p := ⟨gb465, 3, none⟩) (Kd.S_far (p := ⟨gb465, 2, none⟩) (Kd.S_far (p := ⟨gb465, 1, none⟩) (Kd.S_far (p := ⟨gb465, 0, none⟩) (Kd.S_types HO456.out BK465.out (by decide)) (fun _ hk => hk.2) (.slice Ao173 t457.length co173)) (fun _ hk => hk.2) (.int .i64 t460)) (fun _ hk => hk.2) (.int .i64 t461)) (fun _ hk => hk.2) (.int .i64 t462)) (fun _ hk => hk.2) (.int .i64 t463)) (fun _ hk => hk.2) (.int .i64 t464)) (fun _ h_ => h_.1)))).2.2); (case side2 => exact (Kd.S_reads' HO456.out).2.1); (case side3 => exact (Kd.R_reads' (e := 171) (n := t457.length) (c := co173) (by (with_reducible repeat (first | apply Kd.R_alloc | apply Kd.R_drewN | apply Kd.R_drew)); exact (Kd.R_mono (Kd.R_far (p := ⟨gb465, 5, none⟩) (Kd.R_far (p := ⟨gb465, 4, none⟩) (Kd.R_far (p := ⟨gb465, 3, none⟩) (Kd.R_far (p := ⟨gb465, 2, none⟩) (Kd.R_far (p := ⟨gb465, 1, none⟩) (Kd.R_far (p := ⟨gb465, 0, none⟩) (Kd.R_types HO459.out BK465.out (by decide)) (fun _ hk => hk.2) (.slice Ao173 t457.length co173)) (fun _ hk => hk.2) (.int .i64 t460)) (fun _ hk => hk.2) (.int .i64 t461)) (fun _ hk => hk.2) (.int .i64 t462)) (fun _ hk => hk.2) (.int .i64 t463)) (fun _ hk => hk.2) (.int .i64 t464)) (fun _ h_ => h_.1)))).2.2); (case side4 => exact (Kd.R_reads' HO459.out).2.1); rintro e w177 ⟨v467, rfl, ho0, hb⟩; refine ⟨_, rfl, ?_⟩; obtain ⟨b468, HZ468, hz468⟩ := S_born ho0; have HL468 := Aside0.mk (show w.heap.size ≤ b468 from by rw [HZ468.out]; exact (below_size bS)); have HO468 := Aside0.mk (hz468); replace HO441 := Aside0.mk (S_oldB (by (with_reducible repeat (first | apply Kd.S_alloc | apply Kd.S_drewN | apply Kd.S_drew)); exact (Kd.S_mono (Kd.S_far (p := ⟨gb465, 5, none⟩) (Kd.S_far (p := ⟨gb465, 4, none⟩) (Kd.S_far (p := ⟨gb465, 3, none⟩) (Kd.S_far (p := ⟨gb465, 2, none⟩) (Kd.S_far (p := ⟨gb465, 1, none⟩) (Kd.S_far (p := ⟨gb465, 0, none⟩) (Kd.S_types HO441.out BK465.out (by decide)) (fun _ hk => hk.2) (.slice Ao173 t457.length co173)) (fun _ hk => hk.2) (.int .i64 t460)) (fun _ hk => hk.2) (.int .i64 t461)) (fun _ hk => hk.2) (.int .i64 t462)) (fun _ hk => hk.2) (.int .i64 t463)) (fun _ hk => hk.2) (.int .i64 t464)) (fun _ h_ => h_.1))) hb HZ468.out); replace HO444 := Aside0.mk (R_oldB (by (with_reducible repeat (first | apply Kd.R_alloc | apply Kd.R_drewN | apply Kd.R_drew)); exact (Kd.R_mono (Kd.R_far (p := ⟨gb465, 5, none⟩) (Kd.R_far (p := ⟨gb465, 4, none⟩) (Kd.R_far (p := ⟨gb465, 3, none⟩) (Kd.R_far (p := ⟨gb465, 2, none⟩) (Kd.R_far (p := ⟨gb465, 1, none⟩) (Kd.R_far (p := ⟨gb465, 0, none⟩) (Kd.R_types HO444.out BK465.out (by decide)) (fun _ hk => hk.2) (.slice Ao173 t457.length co173)) (fun _ hk => hk.2) (.int .i64 t460)) (fun _ hk => hk.2) (.int .i64 t461)) (fun _ hk => hk.2) (.int .i64 t462)) (fun _ hk => hk.2) (.int .i64 t463)) (fun _ hk => hk.2) (.int .i64 t464)) (fun _ h_ => h_.1))) hb HZ468.out); replace HO452 := Aside0.mk (S_oldB (by (with_reducible repeat (first | apply Kd.S_alloc | apply Kd.S_drewN | apply Kd.S_drew)); exact (Kd.S_mono (Kd.S_far (p := ⟨gb465, 5, none⟩) (Kd.S_far (p := ⟨gb465, 4, none⟩) (Kd.S_far (p := ⟨gb465, 3, none⟩) (Kd.S_far (p := ⟨gb465, 2, none⟩) (Kd.S_far (p := ⟨gb465, 1, none⟩) (Kd.S_far (p := ⟨gb465, 0, none⟩) (Kd.S_types HO452.out BK465.out (by decide)) (fun _ hk => hk.2) (.slice Ao173 t457.length co173)) (fun _ hk => hk.2) (.int .i64 t460)) (fun _ hk => hk.2) (.int .i64 t461)) (fun _ hk => hk.2) (.int .i64 t462)) (fun _ hk => hk.2) (.int .i64 t463)) (fun _ hk => hk.2) (.int .i64 t464)) (fun _ h_ => h_.1))) hb HZ468.out); replace HO456 := Aside0.mk (S_oldB (by (with_reducible repeat (first | apply Kd.S_alloc | apply Kd.S_drewN | apply Kd.S_drew)); exact (Kd.S_mono (Kd.S_far (p := ⟨gb465, 5, none⟩) (Kd.S_far (p := ⟨gb465, 4, none⟩) (Kd.S_far (p := ⟨gb465, 3, none⟩) (Kd.S_far (p := ⟨gb465, 2, none⟩) (Kd.S_far (p := ⟨gb465, 1, none⟩) (Kd.S_far (p := ⟨gb465, 0, none⟩) (Kd.S_types HO456.out BK465.out (by decide)) (fun _ hk => hk.2) (.slice Ao173 t457.length co173)) (fun _ hk => hk.2) (.int .i64 t460)) (fun _ hk => hk.2) (.int .i64 t461)) (fun _ hk => hk.2) (.int .i64 t462)) (fun _ hk => hk.2) (.int .i64 t463)) (fun _ hk => hk.2) (.int .i64 t464)) (fun _ h_ => h_.1))) hb HZ468.out); replace HO459 := Aside0.mk (R_oldB (by (with_reducible repeat (first | apply Kd.R_alloc | apply Kd.R_drewN | apply Kd.R_drew)); exact (Kd.R_mono (Kd.R_far (p := ⟨gb465, 5, none⟩) (Kd.R_far (p := ⟨gb465, 4, none⟩) (Kd.R_far (p := ⟨gb465, 3, none⟩) (Kd.R_far (p := ⟨gb465, 2, none⟩) (Kd.R_far (p := ⟨gb465, 1, none⟩) (Kd.R_far (p := ⟨gb465, 0, none⟩) (Kd.R_types HO459.out BK465.out (by decide)) (fun _ hk => hk.2) (.slice Ao173 t457.length co173)) (fun _ hk => hk.2) (.int .i64 t460)) (fun _ hk => hk.2) (.int .i64 t461)) (fun _ hk => hk.2) (.int .i64 t462)) (fun _ hk => hk.2) (.int .i64 t463)) (fun _ hk => hk.2) (.int .i64 t464)) (fun _ h_ => h_.1))) hb HZ468.out); replace BK436 := kB (g := gb436) hb; replace BK465 := Aside0.mk (blk_below (g := gb465) (o := .cells #[.slice Ao173 t457.length co173, .int .i64 t460, .int .i64 t461, .int .i64 t462, .int .i64 t463, .int .i64 t464] 45 (0, 0)) kS hb); replace HB := hB hb; (try clear hb); (try clear hb2); (try clear hk); (try clear hi); (try clear ho0); obtain ⟨Ao178, co178, eo178⟩ := Kd.S_slice HO468.out; subst eo178; obtain ⟨Ao179, co179, eo179⟩ := Kd.S_slice HO452.out; subst eo179) | ((with_reducible refine gC 54 ?_); refine cL (some 51) Try.func54 #[.slice Ao178 t466.length co178, .slice Ao179 t450.length co179] ?_; (with_reducible refine (laws_eqIntSS.calls k _ _ t466 _ _ t450 _ _ ?side1 ?side2 ?side3 ?side4 A18.out).mono ?_); (case side1 => exact cS (Kd.S_reads' HO468.out).2.2); (case side2 => exact (Kd.S_reads' HO468.out).2.1); (case side3 => exact cS (Kd.S_reads' HO452.out).2.2); (case side4 => exact (Kd.S_reads' HO452.out).2.1); rintro e w' ⟨rfl, ⟨nd, rfl⟩⟩; refine ⟨_, rfl, ?_⟩) | ((with_reducible refine gC 52 ?_); refine cL (some 60) Try.func52 #[.slice A0 l0.length c0] ?_; (with_reducible refine (laws_toIntSS.calls k _ _ l0 t471 _ ?side1 ?side2 A41.out).mono ?_); (case side1 => exact cS (Kd.C_below HR0.out bS)); (case side2 => exact HC0.out); rintro e w180 ⟨v472, rfl, ho0, hb⟩; refine ⟨_, rfl, ?_⟩; obtain ⟨b473, HZ473, hz473⟩ := S_born ho0; have HL473 := Aside0.mk (show w.heap.size ≤ b473 from by rw [HZ473.out]; exact (below_size bS)); have HO473 := Aside0.mk (hz473); replace HO441 := Aside0.mk (S_oldB (by (with_reducible repeat (first | apply Kd.S_alloc | apply Kd.S_drewN | apply Kd.S_drew)); exact HO441.out) hb HZ473.out); replace HO444 := Aside0.mk (R_oldB (rS HO444) hb HZ473.out); replace HO452 := Aside0.mk (S_oldB (by (with_reducible repeat (first | apply Kd.S_alloc | apply Kd.S_drewN | apply Kd.S_drew)); exact HO452.out) hb HZ473.out); replace HO456 := Aside0.mk (S_oldB (by (with_reducible repeat (first | apply Kd.S_alloc | apply Kd.S_drewN | apply Kd.S_drew)); exact HO456.out) hb HZ473.out); replace HO459 := Aside0.mk (R_oldB (rS HO459) hb HZ473.out); replace HO468 := Aside0.mk (S_oldB (by (with_reducible repeat (first | apply Kd.S_alloc | apply Kd.S_drewN | apply Kd.S_drew)); exact HO468.out) hb HZ473.out); replace BK436 := kB (g := gb436) hb; replace BK465 := kB (g := gb465) hb; replace HB := hB hb; (try clear hb); (try clear hb2); (try clear hk); (try clear hi); (try clear ho0); obtain ⟨Ao181, co181, eo181⟩ := Kd.S_slice HO473.out; subst eo181) | ((with_reducible refine gC 54 ?_); refine cL (some 61) Try.func54 #[.slice Ao176 t454.length co176, .slice Ao181 t471.length co181] ?_; (with_reducible refine (laws_eqIntSS.calls k _ _ t454 _ _ t471 _ _ ?side1 ?side2 ?side3 ?side4 A42.out).mono ?_); (case side1 => exact cS (Kd.S_reads' HO456.out).2.2); (case side2 => exact (Kd.S_reads' HO456.out).2.1); (case side3 => exact cS (Kd.S_reads' HO473.out).2.2); (case side4 => exact (Kd.S_reads' HO473.out).2.1); rintro e w' ⟨rfl, ⟨nd, rfl⟩⟩; refine ⟨_, rfl, ?_⟩))
  (try (rw [drewN_self w180]; generalize hq_ : World.drewN w180 _ = w180; replace HO441 : Aside0 (Kd.S (Kd.slice 3 (Kd.int .i64)) 71 w180 b441 (fun k_ => ((((((True ∧ k_ < b444) ∧ k_ < b452) ∧ k_ < b456) ∧ k_ < b459) ∧ k_ < b468) ∧ k_ < b473)) (.slice Ao166 t439.length co166) t439) := ⟨by rw [← hq_]; exact (by (with_reducible repeat (first | apply Kd.S_alloc | apply Kd.S_drewN | apply Kd.S_drew)); exact HO441.out)⟩; replace HO444 : Aside0 (Kd.R k171 171 w180 b444 (fun k_ => (((((True ∧ k_ < b452) ∧ k_ < b456) ∧ k_ < b459) ∧ k_ < b468) ∧ k_ < b473)) (.slice Ao167 t442.length co167) t442) := ⟨by rw [← hq_]; exact (rS HO444)⟩; replace HO452 : Aside0 (Kd.S (Kd.slice 3 (Kd.int .i64)) 71 w180 b452 (fun k_ => ((((True ∧ k_ < b456) ∧ k_ < b459) ∧ k_ < b468) ∧ k_ < b473)) (.slice Ao179 t450.length co179) t450) := ⟨by rw [← hq_]; exact (by (with_reducible repeat (first | apply Kd.S_alloc | apply Kd.S_drewN | apply Kd.S_drew)); exact HO452.out)⟩; replace HO456 : Aside0 (Kd.S (Kd.slice 3 (Kd.int .i64)) 71 w180 b456 (fun k_ => (((True ∧ k_ < b459) ∧ k_ < b468) ∧ k_ < b473)) (.slice Ao176 t454.length co176) t454) := ⟨by rw [← hq_]; exact (by (with_reducible repeat (first | apply Kd.S_alloc | apply Kd.S_drewN | apply Kd.S_drew)); exact HO456.out)⟩; replace HO459 : Aside0 (Kd.R k171 171 w180 b459 (fun k_ => ((True ∧ k_ < b468) ∧ k_ < b473)) (.slice Ao173 t457.length co173) t457) := ⟨by rw [← hq_]; exact (rS HO459)⟩; replace HO468 : Aside0 (Kd.S (Kd.slice 3 (Kd.int .i64)) 71 w180 b468 (fun k_ => (True ∧ k_ < b473)) (.slice Ao178 t466.length co178) t466) := ⟨by rw [← hq_]; exact (by (with_reducible repeat (first | apply Kd.S_alloc | apply Kd.S_drewN | apply Kd.S_drew)); exact HO468.out)⟩; replace HO473 : Aside0 (Kd.S (Kd.slice 3 (Kd.int .i64)) 71 w180 b473 (fun _ => True) (.slice Ao181 t471.length co181) t471) := ⟨by rw [← hq_]; exact (by (with_reducible repeat (first | apply Kd.S_alloc | apply Kd.S_drewN | apply Kd.S_drew)); exact HO473.out)⟩; replace BK436 : Aside0 (w180.heap[gb436]? = some (.cells #[.slice A2_0 l2_0.length c2_0, .int .i64 a2_1, .int .i64 a2_2, .int .i64 a2_3, .int .i64 a2_4, .int .i64 a2_5] 38 (0, 0))) := ⟨by rw [← hq_]; exact kS⟩; replace BK465 : Aside0 (w180.heap[gb465]? = some (.cells #[.slice Ao173 t457.length co173, .int .i64 t460, .int .i64 t461, .int .i64 t462, .int .i64 t463, .int .i64 t464] 45 (0, 0))) := ⟨by rw [← hq_]; exact kS⟩; replace HB : Aside0 (Below w.heap.size w w180) := ⟨by rw [← hq_]; exact bS⟩; clear hq_))
  replace HO441 := Aside0.mk (Kd.S_drew HO441.out)
  replace HO444 := Aside0.mk (Kd.R_drew HO444.out)
  replace HO452 := Aside0.mk (Kd.S_drew HO452.out)
  replace HO456 := Aside0.mk (Kd.S_drew HO456.out)
  replace HO459 := Aside0.mk (Kd.R_drew HO459.out)
  replace HO468 := Aside0.mk (Kd.S_drew HO468.out)
  replace HO473 := Aside0.mk (Kd.S_drew HO473.out)
  replace BK436 := Aside0.mk (blk_drew BK436.out)
  replace BK465 := Aside0.mk (blk_drew BK465.out)
  replace HB := Aside0.mk (below_drew1 HB.out)
  refine start_ (n := 5) (S := fun w' => w'.cell? ⟨gb465, 0, none⟩ = some (.slice Ao173 t457.length co173) ∧ w'.cell? ⟨gb465, 1, none⟩ = some (.int .i64 t460) ∧ w'.cell? ⟨gb465, 2, none⟩ = some (.int .i64 t461) ∧ w'.cell? ⟨gb465, 3, none⟩ = some (.int .i64 t462) ∧ w'.cell? ⟨gb465, 4, none⟩ = some (.int .i64 t463) ∧ w'.cell? ⟨gb465, 5, none⟩ = some (.int .i64 t464) ∧ w'.cell? ⟨gb436, 0, none⟩ = some (.slice A2_0 l2_0.length c2_0) ∧ w'.cell? ⟨gb436, 1, none⟩ = some (.int .i64 a2_1) ∧ w'.cell? ⟨gb436, 2, none⟩ = some (.int .i64 a2_2) ∧ w'.cell? ⟨gb436, 3, none⟩ = some (.int .i64 a2_3) ∧ w'.cell? ⟨gb436, 4, none⟩ = some (.int .i64 a2_4) ∧ w'.cell? ⟨gb436, 5, none⟩ = some (.int .i64 a2_5)) (ds := []) #[false, false, false, false, false] (by kernel_rfl) rfl rfl ⟨(blk_cell BK465.out 0).trans rfl, (blk_cell BK465.out 1).trans rfl, (blk_cell BK465.out 2).trans rfl, (blk_cell BK465.out 3).trans rfl, (blk_cell BK465.out 4).trans rfl, (blk_cell BK465.out 5).trans rfl, (blk_cell BK436.out 0).trans rfl, (blk_cell BK436.out 1).trans rfl, (blk_cell BK436.out 2).trans rfl, (blk_cell BK436.out 3).trans rfl, (blk_cell BK436.out 4).trans rfl, (blk_cell BK436.out 5).trans rfl⟩ (fun hHeld => ?_)
  generalize w180.drew = w182 at HO441 HO444 HO452 HO456 HO459 HO468 HO473 BK436 BK465 HB hHeld ⊢
  refine take_ (i := 0) (N := some 63) (v := ?_) (a' := ?_) #[true, false, false, false, false] rfl rfl (by kernel_rfl) (fun _ _ _ h => h) (Or.inl ⟨by rfl, ?_⟩) hHeld ?_ ?_
  rotate_left
  · rintro w' ⟨s0, s1, s2, s3, s4, s5, s6, s7, s8, s9, s10, s11⟩
    go_simp
    with_reducible rfl
  rotate_left
  · simp only [Act.put, List.setIfInBounds_toArray, List.set_cons_zero, List.set_cons_succ, i64_w, i32_w]
    rfl
  refine take_ (i := 1) (N := some 64) (v := ?_) (a' := ?_) #[true, true, false, false, false] rfl rfl (by kernel_rfl) (fun _ _ _ h => h) (Or.inl ⟨by rfl, ?_⟩) hHeld ?_ ?_
  rotate_left
  · rintro w' ⟨s0, s1, s2, s3, s4, s5, s6, s7, s8, s9, s10, s11⟩
    go_simp
    with_reducible rfl
  rotate_left
  · simp only [Act.put, List.setIfInBounds_toArray, List.set_cons_zero, List.set_cons_succ, i64_w, i32_w]
    rfl
  refine one_ (i := 2) (N := some 65) #[true, true, true, false, false] rfl rfl (by kernel_rfl) (by decide) (fun K hK => ?_)
  refine goes_ Try.func25 (by kernel_rfl) rfl #[.agg #[.slice A2_0 l2_0.length c2_0, .int .i64 a2_1, .int .i64 a2_2, .int .i64 a2_3, .int .i64 a2_4, .int .i64 a2_5]] (by rfl) rfl rfl (by (try simp only [List.map_toArray, List.map_cons, List.map_nil]); first | done | rfl | (simp only [List.length_drop, List.length_take]; rfl)) ?_
  with_reducible refine (laws_toObject.calls k _ _ l2_0 a2_1 a2_2 a2_3 a2_4 a2_5 t475 t478 t479 t480 t481 t482 _ ?side1 ?side2 A44.out).mono ?_
  (case side1 => exact cS (Kd.C_below HR2_0.out HB.out))
  (case side2 => exact HC2_0.out)
  rintro e w183 ⟨v476, rfl, ho0, hb⟩
  refine ⟨_, rfl, ?_⟩
  obtain ⟨b477, HZ477, hz477⟩ := R_born ho0
  have HL477 := Aside0.mk (show w.heap.size ≤ b477 from by rw [HZ477.out]; exact (below_size bS))
  have HO477 := Aside0.mk (hz477)
  replace HO441 := Aside0.mk (S_oldB (by (with_reducible repeat (first | apply Kd.S_alloc | apply Kd.S_drewN | apply Kd.S_drew)); exact HO441.out) hb HZ477.out)
  replace HO444 := Aside0.mk (R_oldB (rS HO444) hb HZ477.out)
  replace HO452 := Aside0.mk (S_oldB (by (with_reducible repeat (first | apply Kd.S_alloc | apply Kd.S_drewN | apply Kd.S_drew)); exact HO452.out) hb HZ477.out)
  replace HO456 := Aside0.mk (S_oldB (by (with_reducible repeat (first | apply Kd.S_alloc | apply Kd.S_drewN | apply Kd.S_drew)); exact HO456.out) hb HZ477.out)
  replace HO459 := Aside0.mk (R_oldB (rS HO459) hb HZ477.out)
  replace HO468 := Aside0.mk (S_oldB (by (with_reducible repeat (first | apply Kd.S_alloc | apply Kd.S_drewN | apply Kd.S_drew)); exact HO468.out) hb HZ477.out)
  replace HO473 := Aside0.mk (S_oldB (by (with_reducible repeat (first | apply Kd.S_alloc | apply Kd.S_drewN | apply Kd.S_drew)); exact HO473.out) hb HZ477.out)
  replace BK436 := kB (g := gb436) hb
  replace BK465 := kB (g := gb465) hb
  replace HB := hB hb
  (try clear hb)
  (try clear hb2)
  (try clear hk)
  (try clear hi)
  (try clear ho0)
  obtain ⟨Ao184, co184, eo184⟩ := Kd.R_slice HO477.out
  (first | subst eo184 | (injection eo184 with f1_ f2_ f3_; have f4_ := f1_.symm; have f5_ := f3_.symm; clear f1_ f2_ f3_; subst f4_; subst f5_))
  refine hK.out _ _ ⟨(blk_cell BK465.out 0).trans rfl, (blk_cell BK465.out 1).trans rfl, (blk_cell BK465.out 2).trans rfl, (blk_cell BK465.out 3).trans rfl, (blk_cell BK465.out 4).trans rfl, (blk_cell BK465.out 5).trans rfl, (blk_cell BK436.out 0).trans rfl, (blk_cell BK436.out 1).trans rfl, (blk_cell BK436.out 2).trans rfl, (blk_cell BK436.out 3).trans rfl, (blk_cell BK436.out 4).trans rfl, (blk_cell BK436.out 5).trans rfl⟩ (fun hHeld => ?_)
  clear hK K
  refine norm_ (a' := ?_) ?_ ?_
  rotate_left
  · show Act.put _ (some 65) _ = _
    simp only [Act.put, List.setIfInBounds_toArray, List.set_cons_zero, List.set_cons_succ, i64_w, i32_w]
    rfl
  refine one_ (i := 3) (N := some 66) #[true, true, true, true, false] rfl rfl (by kernel_rfl) (by decide) (fun K hK => ?_)
  refine goes_ Try.func28 (by kernel_rfl) rfl #[.agg #[.slice Ao173 t457.length co173, .int .i64 t460, .int .i64 t461, .int .i64 t462, .int .i64 t463, .int .i64 t464], .agg #[.slice Ao184 t475.length co184, .int .i64 t478, .int .i64 t479, .int .i64 t480, .int .i64 t481, .int .i64 t482]] (by rfl) rfl rfl (by (try simp only [List.map_toArray, List.map_cons, List.map_nil]); first | done | rfl | (simp only [List.length_drop, List.length_take]; rfl)) ?_
  with_reducible refine (laws_eqObject.calls k _ _ t457 t460 t461 t462 t463 t464 _ _ t475 t478 t479 t480 t481 t482 _ _ ?side1 ?side2 ?side3 ?side4 A45.out).mono ?_
  (case side1 => exact cS (Kd.R_reads' HO459.out).2.2)
  (case side2 => exact (Kd.R_reads' HO459.out).2.1)
  (case side3 => exact cS (Kd.R_reads' HO477.out).2.2)
  (case side4 => exact (Kd.R_reads' HO477.out).2.1)
  rintro e w185 ⟨rfl, hb⟩
  refine ⟨_, rfl, ?_⟩
  replace HO441 := Aside0.mk (Kd.S_below (by (with_reducible repeat (first | apply Kd.S_alloc | apply Kd.S_drewN | apply Kd.S_drew)); exact HO441.out) hb)
  replace HO444 := Aside0.mk (Kd.R_below (rS HO444) hb)
  replace HO452 := Aside0.mk (Kd.S_below (by (with_reducible repeat (first | apply Kd.S_alloc | apply Kd.S_drewN | apply Kd.S_drew)); exact HO452.out) hb)
  replace HO456 := Aside0.mk (Kd.S_below (by (with_reducible repeat (first | apply Kd.S_alloc | apply Kd.S_drewN | apply Kd.S_drew)); exact HO456.out) hb)
  replace HO459 := Aside0.mk (Kd.R_below (rS HO459) hb)
  replace HO468 := Aside0.mk (Kd.S_below (by (with_reducible repeat (first | apply Kd.S_alloc | apply Kd.S_drewN | apply Kd.S_drew)); exact HO468.out) hb)
  replace HO473 := Aside0.mk (Kd.S_below (by (with_reducible repeat (first | apply Kd.S_alloc | apply Kd.S_drewN | apply Kd.S_drew)); exact HO473.out) hb)
  replace HO477 := Aside0.mk (Kd.R_below (rS HO477) hb)
  replace BK436 := kB (g := gb436) hb
  replace BK465 := kB (g := gb465) hb
  replace HB := hB hb
  (try clear hb)
  (try clear hb2)
  (try clear hk)
  (try clear hi)
  refine hK.out _ _ ⟨(blk_cell BK465.out 0).trans rfl, (blk_cell BK465.out 1).trans rfl, (blk_cell BK465.out 2).trans rfl, (blk_cell BK465.out 3).trans rfl, (blk_cell BK465.out 4).trans rfl, (blk_cell BK465.out 5).trans rfl, (blk_cell BK436.out 0).trans rfl, (blk_cell BK436.out 1).trans rfl, (blk_cell BK436.out 2).trans rfl, (blk_cell BK436.out 3).trans rfl, (blk_cell BK436.out 4).trans rfl, (blk_cell BK436.out 5).trans rfl⟩ (fun hHeld => ?_)
  clear hK K
  refine norm_ (a' := ?_) ?_ ?_
  rotate_left
  · show Act.put _ (some 66) _ = _
    simp only [Act.put, List.setIfInBounds_toArray, List.set_cons_zero, List.set_cons_succ, i64_w, i32_w]
    rfl
  refine pure_ (i := 4) (N := some 67) (v := ?_) (a' := ?_) #[true, true, true, true, true] rfl rfl (by kernel_rfl) (fun _ _ _ h => h) (Or.inl ⟨by rfl, ?_⟩) ?_ ?_
  rotate_left
  · intro w'
    go_simp
    with_reducible rfl
  rotate_left
  · simp only [Act.put, List.setIfInBounds_toArray, List.set_cons_zero, List.set_cons_succ, i64_w, i32_w]
    rfl
  refine done_ (by kernel_rfl) ?_
  try go_wp2_with (first | ((with_reducible refine gC 55 ?_); refine cL (some 70) Try.func55 #[.slice Ao176 t454.length co176, .int .i64 1] ?_; (with_reducible refine (laws_markIntSS.calls k (fun k_ => (w.heap.size ≤ k_ ∧ ∃ q_, q_ ∈ 71 :: (Kd.slice 3 (Kd.int .i64)).E ∧ ∃ c_, w185.heap[k_]? = some (.cells c_ q_ (0, 0))) ∧ b456 ≤ k_ ∧ k_ < b459 ∧ k_ < b468 ∧ k_ < b473 ∧ k_ < b477 ∧ True) (.slice Ao176 t454.length co176) t454 1 t484 t485 w _ ?side1 ?side2 A47.out).mono ?_); (case side1 => repeat (first | (with_reducible first | exact HB.out | apply below_alloc | apply pw_below_drewN | apply below_drew1 | refine below_set ?_ GE436.out | refine below_set ?_ GE465.out) | exact HB.out)); (case side2 => (with_reducible repeat (first | apply Kd.S_alloc | apply Kd.S_drewN | apply Kd.S_drew)); exact Kd.S_lower (Kd.S_mono (Kd.S_bound HO456.out) (fun k_ h_ => ⟨⟨Nat.le_trans HL456.out h_.2.1, h_.2.2.2⟩, h_.2.1, h_.1.1.1.1.2, h_.1.1.1.2, h_.1.1.2, h_.1.2, trivial⟩)) HL456.out); rintro e w186 ⟨rfl, hy0, hb, hkp⟩; refine ⟨_, rfl, ?_⟩; replace BK436 := Aside0.mk (blk_kept (g := gb436) kS hkp (fun hs_ => (fun e_ => typed_one (by exact BK436.out) e_.1.2 (by decide)) hs_)); replace HO441 := Aside0.mk (Kd.S_mono (ok' := fun k_ => k_ < b444 ∧ k_ < b452 ∧ k_ < b456 ∧ k_ < b459 ∧ k_ < b468 ∧ k_ < b473 ∧ k_ < b477) (Kd.S_keptB ((S_not (fun k_ => (w.heap.size ≤ k_ ∧ ∃ q_, q_ ∈ 71 :: (Kd.slice 3 (Kd.int .i64)).E ∧ ∃ c_, w185.heap[k_]? = some (.cells c_ q_ (0, 0))) ∧ b456 ≤ k_ ∧ k_ < b459 ∧ k_ < b468 ∧ k_ < b473 ∧ k_ < b477 ∧ True) HO441.out (fun k_ h_ e_ => Nat.not_le.2 (h_.1.1.1.1.1.2) e_.2.1))) hkp (fun k_ hk_ hs_ => (hk_.2) hs_)) (fun k_ hk_ => ⟨hk_.1.1.1.1.1.1.1.1.2, hk_.1.1.1.1.1.1.1.2, hk_.1.1.1.1.1.1.2, hk_.1.1.1.1.1.2, hk_.1.1.1.1.2, hk_.1.1.1.2, hk_.1.1.2⟩)); replace HO444 := Aside0.mk (Kd.R_mono (ok' := fun k_ => k_ < b452 ∧ k_ < b456 ∧ k_ < b459 ∧ k_ < b468 ∧ k_ < b473 ∧ k_ < b477) (Kd.R_keptB ((R_not (fun k_ => (w.heap.size ≤ k_ ∧ ∃ q_, q_ ∈ 71 :: (Kd.slice 3 (Kd.int .i64)).E ∧ ∃ c_, w185.heap[k_]? = some (.cells c_ q_ (0, 0))) ∧ b456 ≤ k_ ∧ k_ < b459 ∧ k_ < b468 ∧ k_ < b473 ∧ k_ < b477 ∧ True) HO444.out (fun k_ h_ e_ => Nat.not_le.2 (h_.1.1.1.1.1.2) e_.2.1))) hkp (fun k_ hk_ hs_ => (hk_.2) hs_)) (fun k_ hk_ => ⟨hk_.1.1.1.1.1.1.1.2, hk_.1.1.1.1.1.1.2, hk_.1.1.1.1.1.2, hk_.1.1.1.1.2, hk_.1.1.1.2, hk_.1.1.2⟩)); replace HO452 := Aside0.mk (Kd.S_mono (ok' := fun k_ => k_ < b456 ∧ k_ < b459 ∧ k_ < b468 ∧ k_ < b473 ∧ k_ < b477) (Kd.S_keptB ((S_not (fun k_ => (w.heap.size ≤ k_ ∧ ∃ q_, q_ ∈ 71 :: (Kd.slice 3 (Kd.int .i64)).E ∧ ∃ c_, w185.heap[k_]? = some (.cells c_ q_ (0, 0))) ∧ b456 ≤ k_ ∧ k_ < b459 ∧ k_ < b468 ∧ k_ < b473 ∧ k_ < b477 ∧ True) HO452.out (fun k_ h_ e_ => Nat.not_le.2 (h_.1.1.1.1.1.2) e_.2.1))) hkp (fun k_ hk_ hs_ => (hk_.2) hs_)) (fun k_ hk_ => ⟨hk_.1.1.1.1.1.1.2, hk_.1.1.1.1.1.2, hk_.1.1.1.1.2, hk_.1.1.1.2, hk_.1.1.2⟩)); replace HO456 := Aside0.mk (Kd.S_mono (ok' := fun _ => True) hy0 (fun _ _ => trivial)); replace HO459 := Aside0.mk (Kd.R_mono (ok' := fun k_ => k_ < b468 ∧ k_ < b473 ∧ k_ < b477) (Kd.R_keptB ((R_not (fun k_ => (w.heap.size ≤ k_ ∧ ∃ q_, q_ ∈ 71 :: (Kd.slice 3 (Kd.int .i64)).E ∧ ∃ c_, w185.heap[k_]? = some (.cells c_ q_ (0, 0))) ∧ b456 ≤ k_ ∧ k_ < b459 ∧ k_ < b468 ∧ k_ < b473 ∧ k_ < b477 ∧ True) HO459.out (fun k_ h_ e_ => Nat.not_lt.2 h_.2.1 (e_.2.2.1)))) hkp (fun k_ hk_ hs_ => (hk_.2) hs_)) (fun k_ hk_ => ⟨hk_.1.1.1.1.2, hk_.1.1.1.2, hk_.1.1.2⟩)); replace BK465 := Aside0.mk (blk_kept (g := gb465) kS hkp (fun hs_ => (fun e_ => typed_one (by exact BK465.out) e_.1.2 (by decide)) hs_)); replace HO468 := Aside0.mk (Kd.S_mono (ok' := fun k_ => k_ < b473 ∧ k_ < b477) (Kd.S_keptB ((S_not (fun k_ => (w.heap.size ≤ k_ ∧ ∃ q_, q_ ∈ 71 :: (Kd.slice 3 (Kd.int .i64)).E ∧ ∃ c_, w185.heap[k_]? = some (.cells c_ q_ (0, 0))) ∧ b456 ≤ k_ ∧ k_ < b459 ∧ k_ < b468 ∧ k_ < b473 ∧ k_ < b477 ∧ True) HO468.out (fun k_ h_ e_ => Nat.not_lt.2 h_.2.1 (e_.2.2.2.1)))) hkp (fun k_ hk_ hs_ => (hk_.2) hs_)) (fun k_ hk_ => ⟨hk_.1.1.1.2, hk_.1.1.2⟩)); replace HO473 := Aside0.mk (Kd.S_mono (ok' := fun k_ => k_ < b477) (Kd.S_keptB ((S_not (fun k_ => (w.heap.size ≤ k_ ∧ ∃ q_, q_ ∈ 71 :: (Kd.slice 3 (Kd.int .i64)).E ∧ ∃ c_, w185.heap[k_]? = some (.cells c_ q_ (0, 0))) ∧ b456 ≤ k_ ∧ k_ < b459 ∧ k_ < b468 ∧ k_ < b473 ∧ k_ < b477 ∧ True) HO473.out (fun k_ h_ e_ => Nat.not_lt.2 h_.2.1 (e_.2.2.2.2.1)))) hkp (fun k_ hk_ hs_ => (hk_.2) hs_)) (fun k_ hk_ => hk_.1.1.2)); replace HO477 := Aside0.mk (Kd.R_mono (ok' := fun k_ => True) (Kd.R_keptB ((R_not (fun k_ => (w.heap.size ≤ k_ ∧ ∃ q_, q_ ∈ 71 :: (Kd.slice 3 (Kd.int .i64)).E ∧ ∃ c_, w185.heap[k_]? = some (.cells c_ q_ (0, 0))) ∧ b456 ≤ k_ ∧ k_ < b459 ∧ k_ < b468 ∧ k_ < b473 ∧ k_ < b477 ∧ True) HO477.out (fun k_ h_ e_ => Nat.not_lt.2 h_.2.1 (e_.2.2.2.2.2.1)))) hkp (fun k_ hk_ hs_ => (hk_.2) hs_)) (fun k_ hk_ => trivial)); replace HB := Aside0.mk (hb); (try clear hb); (try clear hkp); (try clear hy0); have hz187 := cz6 BK465) | ((with_reducible refine gC 29 ?_); refine cL (some 73) Try.func29 #[.agg #[.slice Ao173 t457.length co173, .int .i64 t460, .int .i64 t461, .int .i64 t462, .int .i64 t463, .int .i64 t464], .int .i64 t484] ?_; (with_reducible refine (laws_markObject.calls k (fun k_ => some k_ = (.slice Ao173 t457.length co173 : Value).ownBlock) (.slice Ao173 t457.length co173) t457 t460 t461 t462 t463 t464 t484 t486 t487 w _ ?side1 ?side2 A48.out).mono ?_); (case side1 => repeat (first | (with_reducible first | exact HB.out | apply below_alloc | apply pw_below_drewN | apply below_drew1 | refine below_set ?_ GE436.out | refine below_set ?_ GE465.out) | exact HB.out)); (case side2 => exact Kd.R_lower (Kd.R_tight rfl HO459.out) HL459.out); rintro e w188 ⟨rfl, hy0, hb, hkp⟩; refine ⟨_, rfl, ?_⟩; replace BK436 := Aside0.mk (blk_kept (g := gb436) kS hkp (fun hs_ => (fun e_ => (Kd.R_ne HO459.out BK436.out (by decide)) e_) hs_)); replace HO441 := Aside0.mk (Kd.S_mono (ok' := fun k_ => k_ < b444 ∧ k_ < b452 ∧ k_ < b456 ∧ k_ < b459 ∧ k_ < b468 ∧ k_ < b473 ∧ k_ < b477) (Kd.S_keptB ((S_not (fun k_ => some k_ = (.slice Ao173 t457.length co173 : Value).ownBlock) HO441.out (fun k_ h_ e_ => Nat.not_le.2 (h_.1.2.2.2.1) (Kd.R_base HO459.out k_ e_.symm)))) hkp (fun k_ hk_ hs_ => (hk_.2) hs_)) (fun k_ hk_ => ⟨hk_.1.1.1, hk_.1.1.2.1, hk_.1.1.2.2.1, hk_.1.1.2.2.2.1, hk_.1.1.2.2.2.2.1, hk_.1.1.2.2.2.2.2.1, hk_.1.1.2.2.2.2.2.2⟩)); replace HO444 := Aside0.mk (Kd.R_mono (ok' := fun k_ => k_ < b452 ∧ k_ < b456 ∧ k_ < b459 ∧ k_ < b468 ∧ k_ < b473 ∧ k_ < b477) (Kd.R_keptB ((R_not (fun k_ => some k_ = (.slice Ao173 t457.length co173 : Value).ownBlock) HO444.out (fun k_ h_ e_ => Nat.not_le.2 (h_.1.2.2.1) (Kd.R_base HO459.out k_ e_.symm)))) hkp (fun k_ hk_ hs_ => (hk_.2) hs_)) (fun k_ hk_ => ⟨hk_.1.1.1, hk_.1.1.2.1, hk_.1.1.2.2.1, hk_.1.1.2.2.2.1, hk_.1.1.2.2.2.2.1, hk_.1.1.2.2.2.2.2⟩)); replace HO452 := Aside0.mk (Kd.S_mono (ok' := fun k_ => k_ < b456 ∧ k_ < b459 ∧ k_ < b468 ∧ k_ < b473 ∧ k_ < b477) (Kd.S_keptB ((S_not (fun k_ => some k_ = (.slice Ao173 t457.length co173 : Value).ownBlock) HO452.out (fun k_ h_ e_ => Nat.not_le.2 (h_.1.2.1) (Kd.R_base HO459.out k_ e_.symm)))) hkp (fun k_ hk_ hs_ => (hk_.2) hs_)) (fun k_ hk_ => ⟨hk_.1.1.1, hk_.1.1.2.1, hk_.1.1.2.2.1, hk_.1.1.2.2.2.1, hk_.1.1.2.2.2.2⟩)); replace BK465 := Aside0.mk (blk_kept (g := gb465) kS hkp (fun hs_ => (fun e_ => (Kd.R_ne HO459.out BK465.out (by decide)) e_) hs_)); replace HO468 := Aside0.mk (Kd.S_mono (ok' := fun k_ => k_ < b473 ∧ k_ < b477) (Kd.S_keptB ((S_not (fun k_ => some k_ = (.slice Ao173 t457.length co173 : Value).ownBlock) HO468.out (fun k_ h_ e_ => Nat.not_lt.2 h_.2.1 ((HO459.out.1 k_ e_.symm).1)))) hkp (fun k_ hk_ hs_ => (hk_.2) hs_)) (fun k_ hk_ => ⟨hk_.1.1.1, hk_.1.1.2⟩)); replace HO473 := Aside0.mk (Kd.S_mono (ok' := fun k_ => k_ < b477) (Kd.S_keptB ((S_not (fun k_ => some k_ = (.slice Ao173 t457.length co173 : Value).ownBlock) HO473.out (fun k_ h_ e_ => Nat.not_lt.2 h_.2.1 ((HO459.out.1 k_ e_.symm).2.1)))) hkp (fun k_ hk_ hs_ => (hk_.2) hs_)) (fun k_ hk_ => hk_.1.1)); replace HO477 := Aside0.mk (Kd.R_mono (ok' := fun k_ => True) (Kd.R_keptB ((R_not (fun k_ => some k_ = (.slice Ao173 t457.length co173 : Value).ownBlock) HO477.out (fun k_ h_ e_ => Nat.not_lt.2 h_.2.1 ((HO459.out.1 k_ e_.symm).2.2)))) hkp (fun k_ hk_ hs_ => (hk_.2) hs_)) (fun k_ hk_ => trivial)); replace HO459 := Aside0.mk (Kd.R_reok rfl hy0 (fun k_ e_ => HO459.out.1 k_ e_)); replace HB := Aside0.mk (hb); clear HO456; (try clear hb); (try clear hkp); (try clear hy0)) | (go_at_call 54; (with_reducible refine (laws_eqIntSS.calls k _ _ t466 _ _ t450 _ _ ?side1 ?side2 ?side3 ?side4 A79.out).mono ?_); (case side1 => exact cS (Kd.S_reads' HO468.out).2.2); (case side2 => exact (Kd.S_reads' HO468.out).2.1); (case side3 => exact cS (Kd.S_reads' HO452.out).2.2); (case side4 => exact (Kd.S_reads' HO452.out).2.1); rintro e w' ⟨rfl, ⟨nd, rfl⟩⟩) | ((with_reducible refine gC 55 ?_); refine cL (some 89) Try.func55 #[.slice Ao178 t466.length co178, .int .i64 1] ?_; (with_reducible refine (laws_markIntSS.calls k (fun k_ => (w.heap.size ≤ k_ ∧ ∃ q_, q_ ∈ 71 :: (Kd.slice 3 (Kd.int .i64)).E ∧ ∃ c_, w188.heap[k_]? = some (.cells c_ q_ (0, 0))) ∧ b468 ≤ k_ ∧ k_ < b473 ∧ k_ < b477 ∧ True) (.slice Ao178 t466.length co178) t466 1 t489 t490 w _ ?side1 ?side2 A81.out).mono ?_); (case side1 => repeat (first | (with_reducible first | exact HB.out | apply below_alloc | apply pw_below_drewN | apply below_drew1 | refine below_set ?_ GE436.out | refine below_set ?_ GE465.out) | exact HB.out)); (case side2 => (with_reducible repeat (first | apply Kd.S_alloc | apply Kd.S_drewN | apply Kd.S_drew)); exact Kd.S_lower (Kd.S_mono (Kd.S_bound HO468.out) (fun k_ h_ => ⟨⟨Nat.le_trans HL468.out h_.2.1, h_.2.2.2⟩, h_.2.1, h_.1.1, h_.1.2, trivial⟩)) HL468.out); rintro e w189 ⟨rfl, hy0, hb, hkp⟩; refine ⟨_, rfl, ?_⟩; replace BK436 := Aside0.mk (blk_kept (g := gb436) kS hkp (fun hs_ => (fun e_ => typed_one (by exact BK436.out) e_.1.2 (by decide)) hs_)); replace HO441 := Aside0.mk (Kd.S_mono (ok' := fun k_ => k_ < b444 ∧ k_ < b452 ∧ k_ < b459 ∧ k_ < b468 ∧ k_ < b473 ∧ k_ < b477) (Kd.S_keptB ((S_not (fun k_ => (w.heap.size ≤ k_ ∧ ∃ q_, q_ ∈ 71 :: (Kd.slice 3 (Kd.int .i64)).E ∧ ∃ c_, w188.heap[k_]? = some (.cells c_ q_ (0, 0))) ∧ b468 ≤ k_ ∧ k_ < b473 ∧ k_ < b477 ∧ True) HO441.out (fun k_ h_ e_ => Nat.not_le.2 (h_.1.2.2.2.2.1) e_.2.1))) hkp (fun k_ hk_ hs_ => (hk_.2) hs_)) (fun k_ hk_ => ⟨hk_.1.1.1, hk_.1.1.2.1, hk_.1.1.2.2.2.1, hk_.1.1.2.2.2.2.1, hk_.1.1.2.2.2.2.2.1, hk_.1.1.2.2.2.2.2.2⟩)); replace HO444 := Aside0.mk (Kd.R_mono (ok' := fun k_ => k_ < b452 ∧ k_ < b459 ∧ k_ < b468 ∧ k_ < b473 ∧ k_ < b477) (Kd.R_keptB ((R_not (fun k_ => (w.heap.size ≤ k_ ∧ ∃ q_, q_ ∈ 71 :: (Kd.slice 3 (Kd.int .i64)).E ∧ ∃ c_, w188.heap[k_]? = some (.cells c_ q_ (0, 0))) ∧ b468 ≤ k_ ∧ k_ < b473 ∧ k_ < b477 ∧ True) HO444.out (fun k_ h_ e_ => Nat.not_le.2 (h_.1.2.2.2.1) e_.2.1))) hkp (fun k_ hk_ hs_ => (hk_.2) hs_)) (fun k_ hk_ => ⟨hk_.1.1.1, hk_.1.1.2.2.1, hk_.1.1.2.2.2.1, hk_.1.1.2.2.2.2.1, hk_.1.1.2.2.2.2.2⟩)); replace HO452 := Aside0.mk (Kd.S_mono (ok' := fun k_ => k_ < b459 ∧ k_ < b468 ∧ k_ < b473 ∧ k_ < b477) (Kd.S_keptB ((S_not (fun k_ => (w.heap.size ≤ k_ ∧ ∃ q_, q_ ∈ 71 :: (Kd.slice 3 (Kd.int .i64)).E ∧ ∃ c_, w188.heap[k_]? = some (.cells c_ q_ (0, 0))) ∧ b468 ≤ k_ ∧ k_ < b473 ∧ k_ < b477 ∧ True) HO452.out (fun k_ h_ e_ => Nat.not_le.2 (h_.1.2.2.1) e_.2.1))) hkp (fun k_ hk_ hs_ => (hk_.2) hs_)) (fun k_ hk_ => ⟨hk_.1.1.2.1, hk_.1.1.2.2.1, hk_.1.1.2.2.2.1, hk_.1.1.2.2.2.2⟩)); replace BK465 := Aside0.mk (blk_kept (g := gb465) kS hkp (fun hs_ => (fun e_ => typed_one (by exact BK465.out) e_.1.2 (by decide)) hs_)); replace HO468 := Aside0.mk (Kd.S_mono (ok' := fun _ => True) hy0 (fun _ _ => trivial)); replace HO473 := Aside0.mk (Kd.S_mono (ok' := fun k_ => k_ < b477) (Kd.S_keptB ((S_not (fun k_ => (w.heap.size ≤ k_ ∧ ∃ q_, q_ ∈ 71 :: (Kd.slice 3 (Kd.int .i64)).E ∧ ∃ c_, w188.heap[k_]? = some (.cells c_ q_ (0, 0))) ∧ b468 ≤ k_ ∧ k_ < b473 ∧ k_ < b477 ∧ True) HO473.out (fun k_ h_ e_ => Nat.not_lt.2 h_.2.1 (e_.2.2.1)))) hkp (fun k_ hk_ hs_ => (hk_.2) hs_)) (fun k_ hk_ => hk_.1.1)); replace HO477 := Aside0.mk (Kd.R_mono (ok' := fun k_ => True) (Kd.R_keptB ((R_not (fun k_ => (w.heap.size ≤ k_ ∧ ∃ q_, q_ ∈ 71 :: (Kd.slice 3 (Kd.int .i64)).E ∧ ∃ c_, w188.heap[k_]? = some (.cells c_ q_ (0, 0))) ∧ b468 ≤ k_ ∧ k_ < b473 ∧ k_ < b477 ∧ True) HO477.out (fun k_ h_ e_ => Nat.not_lt.2 h_.2.1 (e_.2.2.2.1)))) hkp (fun k_ hk_ hs_ => (hk_.2) hs_)) (fun k_ hk_ => trivial)); replace HB := Aside0.mk (hb); clear HO459; (try clear hb); (try clear hkp); (try clear hy0)) | ((with_reducible refine gC 56 ?_); refine goesL_ (some 92) rfl rfl Try.func56 (by kernel_rfl) rfl #[.slice Ao178 t490.length co178, .int .i64 1] rfl (by (try simp only [List.map_toArray, List.map_cons, List.map_nil]); first | done | (rw [show t490.length = t466.length from (Kd.S_reads' HO468.out).1.symm] <;> rfl) | rfl | (simp only [List.length_drop, List.length_take]; rfl)) ?_; (with_reducible refine (laws_heldIntSS.calls k _ _ t490 1 t491 _ ?side1 ?side2 A82.out).mono ?_); (case side1 => exact cS (Kd.S_reads' HO468.out).2.2); (case side2 => rw [show t490.length = t466.length from (Kd.S_reads' HO468.out).1.symm]; exact (Kd.S_reads' HO468.out).2.1); rintro e w' ⟨rfl, ⟨nd, rfl⟩⟩; refine ⟨_, rfl, ?_⟩))
  (try (rw [drewN_self w189]; generalize hq_ : World.drewN w189 _ = w189; replace HO441 : Aside0 (Kd.S (Kd.slice 3 (Kd.int .i64)) 71 w189 b441 (fun k_ => (k_ < b444 ∧ (k_ < b452 ∧ (k_ < b459 ∧ (k_ < b468 ∧ (k_ < b473 ∧ k_ < b477)))))) (.slice Ao166 t439.length co166) t439) := ⟨by rw [← hq_]; exact (by (with_reducible repeat (first | apply Kd.S_alloc | apply Kd.S_drewN | apply Kd.S_drew)); exact HO441.out)⟩; replace HO444 : Aside0 (Kd.R k171 171 w189 b444 (fun k_ => (k_ < b452 ∧ (k_ < b459 ∧ (k_ < b468 ∧ (k_ < b473 ∧ k_ < b477))))) (.slice Ao167 t442.length co167) t442) := ⟨by rw [← hq_]; exact (rS HO444)⟩; replace HO452 : Aside0 (Kd.S (Kd.slice 3 (Kd.int .i64)) 71 w189 b452 (fun k_ => (k_ < b459 ∧ (k_ < b468 ∧ (k_ < b473 ∧ k_ < b477)))) (.slice Ao179 t450.length co179) t450) := ⟨by rw [← hq_]; exact (by (with_reducible repeat (first | apply Kd.S_alloc | apply Kd.S_drewN | apply Kd.S_drew)); exact HO452.out)⟩; replace HO468 : Aside0 (Kd.S (Kd.slice 3 (Kd.int .i64)) 71 w189 w.heap.size (fun _ => True) (.slice Ao178 t466.length co178) t490) := ⟨by rw [← hq_]; exact (by (with_reducible repeat (first | apply Kd.S_alloc | apply Kd.S_drewN | apply Kd.S_drew)); exact HO468.out)⟩; replace HO473 : Aside0 (Kd.S (Kd.slice 3 (Kd.int .i64)) 71 w189 b473 (fun k_ => k_ < b477) (.slice Ao181 t471.length co181) t471) := ⟨by rw [← hq_]; exact (by (with_reducible repeat (first | apply Kd.S_alloc | apply Kd.S_drewN | apply Kd.S_drew)); exact HO473.out)⟩; replace HO477 : Aside0 (Kd.R k171 171 w189 b477 (fun _ => True) (.slice Ao184 t475.length co184) t475) := ⟨by rw [← hq_]; exact (rS HO477)⟩; replace BK436 : Aside0 (w189.heap[gb436]? = some (.cells #[.slice A2_0 l2_0.length c2_0, .int .i64 a2_1, .int .i64 a2_2, .int .i64 a2_3, .int .i64 a2_4, .int .i64 a2_5] 38 (0, 0))) := ⟨by rw [← hq_]; exact kS⟩; replace BK465 : Aside0 (w189.heap[gb465]? = some (.cells #[.slice Ao173 t457.length co173, .int .i64 t460, .int .i64 t461, .int .i64 t462, .int .i64 t463, .int .i64 t464] 45 (0, 0))) := ⟨by rw [← hq_]; exact kS⟩; replace HB : Aside0 (Below w.heap.size w w189) := ⟨by rw [← hq_]; exact bS⟩; clear hq_))
  replace HO441 := Aside0.mk (Kd.S_drew HO441.out)
  replace HO444 := Aside0.mk (Kd.R_drew HO444.out)
  replace HO452 := Aside0.mk (Kd.S_drew HO452.out)
  replace HO468 := Aside0.mk (Kd.S_drew HO468.out)
  replace HO473 := Aside0.mk (Kd.S_drew HO473.out)
  replace HO477 := Aside0.mk (Kd.R_drew HO477.out)
  replace BK436 := Aside0.mk (blk_drew BK436.out)
  replace BK465 := Aside0.mk (blk_drew BK465.out)
  replace HB := Aside0.mk (below_drew1 HB.out)
  refine start_ (n := 11) (S := fun w' => w'.cell? ⟨gb436, 0, none⟩ = some (.slice A2_0 l2_0.length c2_0) ∧ w'.cell? ⟨gb436, 1, none⟩ = some (.int .i64 a2_1) ∧ w'.cell? ⟨gb436, 2, none⟩ = some (.int .i64 a2_2) ∧ w'.cell? ⟨gb436, 3, none⟩ = some (.int .i64 a2_3) ∧ w'.cell? ⟨gb436, 4, none⟩ = some (.int .i64 a2_4) ∧ w'.cell? ⟨gb436, 5, none⟩ = some (.int .i64 a2_5)) (ds := []) #[false, false, false, false, false, false, false, false, false, false, false] (by kernel_rfl) rfl rfl ⟨(blk_cell BK436.out 0).trans rfl, (blk_cell BK436.out 1).trans rfl, (blk_cell BK436.out 2).trans rfl, (blk_cell BK436.out 3).trans rfl, (blk_cell BK436.out 4).trans rfl, (blk_cell BK436.out 5).trans rfl⟩ (fun hHeld => ?_); refine with_tabW laws_FnExactPaintObject.tab31 laws_FnExactPaintObject.bits31 (fun HT_ HW_ => ?_)
  generalize w189.drew = w190 at HO441 HO444 HO452 HO468 HO473 HO477 BK436 BK465 HB hHeld ⊢
  refine pure_ (i := 0) (N := some 99) (v := ?_) (a' := ?_) #[true, false, false, false, false, false, false, false, false, false, false] rfl rfl (any_of HT_.out (by kernel_rfl)) (fun _ _ _ h => h) (Or.inl ⟨by rfl, ?_⟩) ?_ ?_
  rotate_left
  · intro w'
    go_simp
    with_reducible rfl
  rotate_left
  · simp only [Act.put, List.setIfInBounds_toArray, List.set_cons_zero, List.set_cons_succ, i64_w, i32_w]
    rfl
  refine pure_ (i := 2) (N := some 101) (v := ?_) (a' := ?_) #[true, false, true, false, false, false, false, false, false, false, false] rfl rfl (any_of HT_.out (by kernel_rfl)) (fun _ _ _ h => h) (Or.inl ⟨by rfl, ?_⟩) ?_ ?_
  rotate_left
  · intro w'
    go_simp
    with_reducible rfl
  rotate_left
  · simp only [Act.put, List.setIfInBounds_toArray, List.set_cons_zero, List.set_cons_succ, i64_w, i32_w]
    rfl
  refine take_ (i := 3) (N := some 102) (v := ?_) (a' := ?_) #[true, false, true, true, false, false, false, false, false, false, false] rfl rfl (take_ofW HT_.out HW_.out (by kernel_rfl)) (fun _ _ _ h => h) (Or.inl ⟨by rfl, ?_⟩) hHeld ?_ ?_
  rotate_left
  · rintro w' ⟨s0, s1, s2, s3, s4, s5⟩
    go_simp
    with_reducible rfl
  rotate_left
  · simp only [Act.put, List.setIfInBounds_toArray, List.set_cons_zero, List.set_cons_succ, i64_w, i32_w]
    rfl
  refine one_ (i := 1) (N := some 100) #[true, true, true, true, false, false, false, false, false, false, false] rfl rfl (one_of HT_.out (by kernel_rfl)) (by decide) (fun K hK => ?_)
  refine goes_ Try.func52 (by kernel_rfl) rfl #[.slice A0 l0.length c0] (by rfl) rfl rfl (by (try simp only [List.map_toArray, List.map_cons, List.map_nil]); first | done | rfl | (simp only [List.length_drop, List.length_take]; rfl)) ?_
  with_reducible refine (laws_toIntSS.calls k _ _ l0 t492 _ ?side1 ?side2 A115.out).mono ?_
  (case side1 => exact cS (Kd.C_below HR0.out HB.out))
  (case side2 => exact HC0.out)
  rintro e w191 ⟨v493, rfl, ho0, hb⟩
  refine ⟨_, rfl, ?_⟩
  obtain ⟨b494, HZ494, hz494⟩ := S_born ho0
  have HL494 := Aside0.mk (show w.heap.size ≤ b494 from by rw [HZ494.out]; exact (below_size bS))
  have HO494 := Aside0.mk (hz494)
  replace HO441 := Aside0.mk (S_oldB (by (with_reducible repeat (first | apply Kd.S_alloc | apply Kd.S_drewN | apply Kd.S_drew)); exact HO441.out) hb HZ494.out)
  replace HO444 := Aside0.mk (R_oldB (rS HO444) hb HZ494.out)
  replace HO452 := Aside0.mk (S_oldB (by (with_reducible repeat (first | apply Kd.S_alloc | apply Kd.S_drewN | apply Kd.S_drew)); exact HO452.out) hb HZ494.out)
  replace HO468 := Aside0.mk (S_oldB (by (with_reducible repeat (first | apply Kd.S_alloc | apply Kd.S_drewN | apply Kd.S_drew)); exact HO468.out) hb HZ494.out)
  replace HO473 := Aside0.mk (S_oldB (by (with_reducible repeat (first | apply Kd.S_alloc | apply Kd.S_drewN | apply Kd.S_drew)); exact HO473.out) hb HZ494.out)
  replace HO477 := Aside0.mk (R_oldB (rS HO477) hb HZ494.out)
  replace BK436 := kB (g := gb436) hb
  replace BK465 := kB (g := gb465) hb
  replace HB := hB hb
  (try clear hb)
  (try clear hb2)
  (try clear hk)
  (try clear hi)
  (try clear ho0)
  refine hK.out _ _ ⟨(blk_cell BK436.out 0).trans rfl, (blk_cell BK436.out 1).trans rfl, (blk_cell BK436.out 2).trans rfl, (blk_cell BK436.out 3).trans rfl, (blk_cell BK436.out 4).trans rfl, (blk_cell BK436.out 5).trans rfl⟩ (fun hHeld => ?_)
  clear hK K
  refine norm_ (a' := ?_) ?_ ?_
  rotate_left
  · show Act.put _ (some 100) _ = _
    simp only [Act.put, List.setIfInBounds_toArray, List.set_cons_zero, List.set_cons_succ, i64_w, i32_w]
    rfl
  refine one_ (i := 4) (N := some 103) #[true, true, true, true, true, false, false, false, false, false, false] rfl rfl (one_of HT_.out (by kernel_rfl)) (by decide) (fun K hK => ?_)
  refine goes_ Try.func25 (by kernel_rfl) rfl #[.agg #[.slice A2_0 l2_0.length c2_0, .int .i64 a2_1, .int .i64 a2_2, .int .i64 a2_3, .int .i64 a2_4, .int .i64 a2_5]] (by rfl) rfl rfl (by (try simp only [List.map_toArray, List.map_cons, List.map_nil]); first | done | rfl | (simp only [List.length_drop, List.length_take]; rfl)) ?_
  with_reducible refine (laws_toObject.calls k _ _ l2_0 a2_1 a2_2 a2_3 a2_4 a2_5 t495 t498 t499 t500 t501 t502 _ ?side1 ?side2 A116.out).mono ?_
  (case side1 => exact cS (Kd.C_below HR2_0.out HB.out))
  (case side2 => exact HC2_0.out)
  rintro e w192 ⟨v496, rfl, ho0, hb⟩
  refine ⟨_, rfl, ?_⟩
  obtain ⟨b497, HZ497, hz497⟩ := R_born ho0
  have HL497 := Aside0.mk (show w.heap.size ≤ b497 from by rw [HZ497.out]; exact (below_size bS))
  have HO497 := Aside0.mk (hz497)
  replace HO441 := Aside0.mk (S_oldB (by (with_reducible repeat (first | apply Kd.S_alloc | apply Kd.S_drewN | apply Kd.S_drew)); exact HO441.out) hb HZ497.out)
  replace HO444 := Aside0.mk (R_oldB (rS HO444) hb HZ497.out)
  replace HO452 := Aside0.mk (S_oldB (by (with_reducible repeat (first | apply Kd.S_alloc | apply Kd.S_drewN | apply Kd.S_drew)); exact HO452.out) hb HZ497.out)
  replace HO468 := Aside0.mk (S_oldB (by (with_reducible repeat (first | apply Kd.S_alloc | apply Kd.S_drewN | apply Kd.S_drew)); exact HO468.out) hb HZ497.out)
  replace HO473 := Aside0.mk (S_oldB (by (with_reducible repeat (first | apply Kd.S_alloc | apply Kd.S_drewN | apply Kd.S_drew)); exact HO473.out) hb HZ497.out)
  replace HO477 := Aside0.mk (R_oldB (rS HO477) hb HZ497.out)
  replace HO494 := Aside0.mk (S_oldB (by (with_reducible repeat (first | apply Kd.S_alloc | apply Kd.S_drewN | apply Kd.S_drew)); exact HO494.out) hb HZ497.out)
  replace BK436 := kB (g := gb436) hb
  replace BK465 := kB (g := gb465) hb
  replace HB := hB hb
  (try clear hb)
  (try clear hb2)
  (try clear hk)
  (try clear hi)
  (try clear ho0)
  obtain ⟨Ao193, co193, eo193⟩ := Kd.S_slice HO494.out
  (first | subst eo193 | (injection eo193 with f1_ f2_ f3_; have f4_ := f1_.symm; have f5_ := f3_.symm; clear f1_ f2_ f3_; subst f4_; subst f5_))
  obtain ⟨Ao194, co194, eo194⟩ := Kd.R_slice HO497.out
  (first | subst eo194 | (injection eo194 with f1_ f2_ f3_; have f4_ := f1_.symm; have f5_ := f3_.symm; clear f1_ f2_ f3_; subst f4_; subst f5_))
  refine hK.out _ _ ⟨(blk_cell BK436.out 0).trans rfl, (blk_cell BK436.out 1).trans rfl, (blk_cell BK436.out 2).trans rfl, (blk_cell BK436.out 3).trans rfl, (blk_cell BK436.out 4).trans rfl, (blk_cell BK436.out 5).trans rfl⟩ (fun hHeld => ?_)
  clear hK K
  refine norm_ (a' := ?_) ?_ ?_
  rotate_left
  · show Act.put _ (some 103) _ = _
    simp only [Act.put, List.setIfInBounds_toArray, List.set_cons_zero, List.set_cons_succ, i64_w, i32_w]
    rfl
  refine one_ (i := 5) (N := some 104) #[true, true, true, true, true, true, false, false, false, false, false] rfl rfl (one_of HT_.out (by kernel_rfl)) (by decide) (fun K hK => ?_)
  refine goes_ Try.func53 (by kernel_rfl) rfl #[.slice Ao193 t492.length co193, .int .i64 a1, .agg #[.slice Ao194 t495.length co194, .int .i64 t498, .int .i64 t499, .int .i64 t500, .int .i64 t501, .int .i64 t502]] (by rfl) rfl rfl (by (try simp only [List.map_toArray, List.map_cons, List.map_nil]); first | done | rfl | (simp only [List.length_drop, List.length_take]; rfl)) ?_
  with_reducible refine (impl_PaintObject.calls k _ _ t492 a1 _ _ t495 t498 t499 t500 t501 t502 t503 t506 _ ?side1 ?side2 ?side3 ?side4 A117.out).mono ?_
  (case side1 => exact cS (Kd.S_reads' HO494.out).2.2)
  (case side2 => exact (Kd.S_reads' HO494.out).2.1)
  (case side3 => exact cS (Kd.R_reads' HO497.out).2.2)
  (case side4 => exact (Kd.R_reads' HO497.out).2.1)
  rintro e w195 ⟨v504, rfl, ho0, hb⟩
  refine ⟨_, rfl, ?_⟩
  obtain ⟨b505, HZ505, hz505⟩ := S_born ho0
  have HL505 := Aside0.mk (show w.heap.size ≤ b505 from by rw [HZ505.out]; exact (below_size bS))
  have HO505 := Aside0.mk (hz505)
  replace HO441 := Aside0.mk (S_oldB (by (with_reducible repeat (first | apply Kd.S_alloc | apply Kd.S_drewN | apply Kd.S_drew)); exact HO441.out) hb HZ505.out)
  replace HO444 := Aside0.mk (R_oldB (rS HO444) hb HZ505.out)
  replace HO452 := Aside0.mk (S_oldB (by (with_reducible repeat (first | apply Kd.S_alloc | apply Kd.S_drewN | apply Kd.S_drew)); exact HO452.out) hb HZ505.out)
  replace HO468 := Aside0.mk (S_oldB (by (with_reducible repeat (first | apply Kd.S_alloc | apply Kd.S_drewN | apply Kd.S_drew)); exact HO468.out) hb HZ505.out)
  replace HO473 := Aside0.mk (S_oldB (by (with_reducible repeat (first | apply Kd.S_alloc | apply Kd.S_drewN | apply Kd.S_drew)); exact HO473.out) hb HZ505.out)
  replace HO477 := Aside0.mk (R_oldB (rS HO477) hb HZ505.out)
  replace HO494 := Aside0.mk (S_oldB (by (with_reducible repeat (first | apply Kd.S_alloc | apply Kd.S_drewN | apply Kd.S_drew)); exact HO494.out) hb HZ505.out)
  replace HO497 := Aside0.mk (R_oldB (rS HO497) hb HZ505.out)
  replace BK436 := kB (g := gb436) hb
  replace BK465 := kB (g := gb465) hb
  replace HB := hB hb
  (try clear hb)
  (try clear hb2)
  (try clear hk)
  (try clear hi)
  (try clear ho0)
  refine hK.out _ _ ⟨(blk_cell BK436.out 0).trans rfl, (blk_cell BK436.out 1).trans rfl, (blk_cell BK436.out 2).trans rfl, (blk_cell BK436.out 3).trans rfl, (blk_cell BK436.out 4).trans rfl, (blk_cell BK436.out 5).trans rfl⟩ (fun hHeld => ?_)
  clear hK K
  refine norm_ (a' := ?_) ?_ ?_
  rotate_left
  · show Act.put _ (some 104) _ = _
    simp only [Act.put, List.setIfInBounds_toArray, List.set_cons_zero, List.set_cons_succ, i64_w, i32_w]
    rfl
  refine pure_ (i := 6) (N := some 98) (v := ?_) (a' := ?_) #[true, true, true, true, true, true, true, false, false, false, false] rfl rfl (any_of HT_.out (by kernel_rfl)) (fun _ _ _ h => h) (Or.inl ⟨by rfl, ?_⟩) ?_ ?_
  rotate_left
  · intro w'
    go_simp
    with_reducible rfl
  rotate_left
  · simp only [Act.put, List.setIfInBounds_toArray, List.set_cons_zero, List.set_cons_succ, i64_w, i32_w]
    rfl
  refine pure_ (i := 7) (N := some 105) (v := ?_) (a' := ?_) #[true, true, true, true, true, true, true, true, false, false, false] rfl rfl (any_of HT_.out (by kernel_rfl)) (fun _ _ _ h => h) (Or.inl ⟨by rfl, ?_⟩) ?_ ?_
  rotate_left
  · intro w'
    go_simp
    with_reducible rfl
  rotate_left
  · simp only [Act.put, List.setIfInBounds_toArray, List.set_cons_zero, List.set_cons_succ, i64_w, i32_w]
    rfl
  refine pure_ (i := 8) (N := some 106) (v := ?_) (a' := ?_) #[true, true, true, true, true, true, true, true, true, false, false] rfl rfl (any_of HT_.out (by kernel_rfl)) (fun _ _ _ h => h) (Or.inl ⟨by rfl, ?_⟩) ?_ ?_
  rotate_left
  · intro w'
    go_simp
    with_reducible rfl
  rotate_left
  · simp only [Act.put, List.setIfInBounds_toArray, List.set_cons_zero, List.set_cons_succ, i64_w, i32_w]
    rfl
  refine pure_ (i := 9) (N := some 17) (v := ?_) (a' := ?_) #[true, true, true, true, true, true, true, true, true, true, false] rfl rfl (any_of HT_.out (by kernel_rfl)) (fun _ _ _ h => h) (Or.inl ⟨by rfl, ?_⟩) ?_ ?_
  rotate_left
  · intro w'
    go_simp
    with_reducible rfl
  rotate_left
  · simp only [Act.put, List.setIfInBounds_toArray, List.set_cons_zero, List.set_cons_succ, i64_w, i32_w]
    rfl
  refine pure_ (i := 10) (N := some 18) (v := ?_) (a' := ?_) #[true, true, true, true, true, true, true, true, true, true, true] rfl rfl (any_of HT_.out (by kernel_rfl)) (fun _ _ _ h => h) (Or.inl ⟨by rfl, ?_⟩) ?_ ?_
  rotate_left
  · intro w'
    go_simp
    with_reducible rfl
  rotate_left
  · simp only [Act.put, List.setIfInBounds_toArray, List.set_cons_zero, List.set_cons_succ, i64_w, i32_w]
    rfl
  refine done_ (done_of HT_.out (by kernel_rfl)) ?_
  obtain ⟨Ao196, co196, eo196⟩ := Kd.S_slice HO505.out
  subst eo196
  try go_wp2_with (first | ((with_reducible refine gC 54 ?_); refine cL (some 109) Try.func54 #[.slice Ao196 t503.length co196, .slice Ao179 t450.length co179] ?_; (with_reducible refine (laws_eqIntSS.calls k _ _ t503 _ _ t450 _ _ ?side1 ?side2 ?side3 ?side4 A118.out).mono ?_); (case side1 => exact cS (Kd.S_reads' HO505.out).2.2); (case side2 => exact (Kd.S_reads' HO505.out).2.1); (case side3 => exact cS (Kd.S_reads' HO452.out).2.2); (case side4 => exact (Kd.S_reads' HO452.out).2.1); rintro e w' ⟨rfl, ⟨nd, rfl⟩⟩; refine ⟨_, rfl, ?_⟩) | ((with_reducible refine gC 56 ?_); refine goesL_ (some 118) rfl rfl Try.func56 (by kernel_rfl) rfl #[.slice Ao178 t490.length co178, .int .i64 1] rfl (by (try simp only [List.map_toArray, List.map_cons, List.map_nil]); first | done | (rw [show t490.length = t466.length from (Kd.S_reads' HO468.out).1.symm] <;> rfl) | rfl | (simp only [List.length_drop, List.length_take]; rfl)) ?_; (with_reducible refine (laws_heldIntSS.calls k _ _ t490 1 t508 _ ?side1 ?side2 A158.out).mono ?_); (case side1 => exact cS (Kd.S_reads' HO468.out).2.2); (case side2 => rw [show t490.length = t466.length from (Kd.S_reads' HO468.out).1.symm]; exact (Kd.S_reads' HO468.out).2.1); rintro e w' ⟨rfl, ⟨nd, rfl⟩⟩; refine ⟨_, rfl, ?_⟩))
  go_ret
  exact ⟨eS, bS⟩) : p := h
theorem laws_FnExactPaintObject.calls (k : Nat) (A0 : Option Addr) (c0 : Nat) (l0 : List (List Int)) (a1 : Int) (A2_0 : Option Addr) (c2_0 : Nat) (l2_0 : List (S173)) (a2_1 : Int) (a2_2 : Int) (a2_3 : Int) (a2_4 : Int) (a2_5 : Int) (r : Bool) (w : World) (hr0 : Kd.C (Kd.slice 3 (Kd.int .i64)) w A0 l0.length l0) (hc0 : l0.length ≤ c0) (hr2_0 : Kd.C k173 w A2_0 l2_0.length l2_0) (hc2_0 : l2_0.length ≤ c2_0) (h : laws_FnExactPaintObject.f k l0 a1 l2_0 a2_1 a2_2 a2_3 a2_4 a2_5 = some r) :
    Calls Try.prog 9 #[.slice A0 l0.length c0, .int .i64 a1, .agg #[.slice A2_0 l2_0.length c2_0, .int .i64 a2_1, .int .i64 a2_2, .int .i64 a2_3, .int .i64 a2_4, .int .i64 a2_5]] w fun e w' => e = .returned (.bool r) ∧ Below w.heap.size w w' := by
  have hu38 := Try.underlying38
  have hu45 := Try.underlying45
  have HR0 := Aside0.mk hr0
  have HC0 := Aside0.mk hc0
  clear hr0 hc0
  have HR2_0 := Aside0.mk hr2_0
  have HC2_0 := Aside0.mk hc2_0
  clear hr2_0 hc2_0
  have HB := Aside0.mk (Below.refl w.heap.size w)
  have H : ((laws_szIntSS.f k l0 1048576).bind fun t437 => (if t437 < 0 then (some true) else ((laws_szObject.f l2_0 a2_1 a2_2 a2_3 a2_4 a2_5 t437).bind fun t438 => (if t438 < 0 then (some true) else ((laws_toIntSS.f k l0).bind fun t439 => ((laws_toObject.f k l2_0 a2_1 a2_2 a2_3 a2_4 a2_5).bind fun bt442 => ((spec_PaintObject.f k t439 a1 bt442.1 bt442.2.1 bt442.2.2.1 bt442.2.2.2.1 bt442.2.2.2.2.1 bt442.2.2.2.2.2).bind fun bt450 => ((laws_toIntSS.f k l0).bind fun t454 => ((laws_toObject.f k l2_0 a2_1 a2_2 a2_3 a2_4 a2_5).bind fun bt457 => ((impl_PaintObject.f k t454 a1 bt457.1 bt457.2.1 bt457.2.2.1 bt457.2.2.2.1 bt457.2.2.2.2.1 bt457.2.2.2.2.2).bind fun bt466 => ((laws_eqIntSS.f k bt466.1 bt450.1).bind fun t470 => (if t470 = true then (if (bt466.2 != bt450.2) = true then (some false) else ((laws_toIntSS.f k l0).bind fun t471 => ((laws_eqIntSS.f k t454 t471).bind fun t474 => (if t474 = true then ((laws_toObject.f k l2_0 a2_1 a2_2 a2_3 a2_4 a2_5).bind fun bt475 => ((laws_eqObject.f k bt457.1 bt457.2.1 bt457.2.2.1 bt457.2.2.2.1 bt457.2.2.2.2.1 bt457.2.2.2.2.2 bt475.1 bt475.2.1 bt475.2.2.1 bt475.2.2.2.1 bt475.2.2.2.2.1 bt475.2.2.2.2.2).bind fun t483 => (if t483 = true then ((laws_markIntSS.f k t454 1).bind fun bt484 => ((laws_markObject.f k bt457.1 bt457.2.1 bt457.2.2.1 bt457.2.2.2.1 bt457.2.2.2.2.1 bt457.2.2.2.2.2 bt484.1).bind fun bt486 => (if bt486.1 < 0 then (some false) else ((laws_eqIntSS.f k bt466.1 bt450.1).bind fun t488 => (if t488 = true then ((laws_markIntSS.f k bt466.1 1).bind fun bt489 => ((laws_heldIntSS.f k bt489.2 1).bind fun t491 => (if t491 < 0 then (some false) else (if t491 = bt489.1 then ((laws_toIntSS.f k l0).bind fun t492 => ((laws_toObject.f k l2_0 a2_1 a2_2 a2_3 a2_4 a2_5).bind fun bt495 => ((impl_PaintObject.f k t492 a1 bt495.1 bt495.2.1 bt495.2.2.1 bt495.2.2.2.1 bt495.2.2.2.2.1 bt495.2.2.2.2.2).bind fun bt503 => ((laws_eqIntSS.f k bt503.1 bt450.1).bind fun t507 => (if t507 = true then (if (bt503.2 != bt450.2) = true then (some false) else ((laws_heldIntSS.f k bt489.2 1).bind fun t508 => (if t508 < 0 then (some false) else (if t508 = bt489.1 then (some true) else (some false))))) else (some false)))))) else (some false))))) else (some false)))))) else (some false)))) else (some false))))) else (some false))))))))))))) = some r := h
  clear h
  replace H := bN H
  obtain ⟨t437, A4, H⟩ := H
  by_cases c5 : t437 < 0
  · rw [if_pos c5] at H
    have c5b0 : decide (t437 < 0) = true := decide_eq_true c5
    clear c5
    obtain rfl := Option.some.inj H
    exact laws_FnExactPaintObject.lf0
  · rw [if_neg c5] at H
    have c5b0 : decide (t437 < 0) = false := decide_eq_false c5
    clear c5
    replace H := bN H
    obtain ⟨t438, A7, H⟩ := H
    by_cases c8 : t438 < 0
    · rw [if_pos c8] at H
      have c8b0 : decide (t438 < 0) = true := decide_eq_true c8
      clear c8
      obtain rfl := Option.some.inj H
      exact laws_FnExactPaintObject.lf0
    · rw [if_neg c8] at H
      have c8b0 : decide (t438 < 0) = false := decide_eq_false c8
      clear c8
      replace H := bN H
      obtain ⟨t439, A12, H⟩ := H
      replace H := bN H
      obtain ⟨⟨t442, t445, t446, t447, t448, t449⟩, A13, H⟩ := H
      replace H := bN H
      obtain ⟨⟨t450, t453⟩, A14, H⟩ := H
      replace H := bN H
      obtain ⟨t454, A15, H⟩ := H
      replace H := bN H
      obtain ⟨⟨t457, t460, t461, t462, t463, t464⟩, A16, H⟩ := H
      replace H := bN H
      obtain ⟨⟨t466, t469⟩, A17, H⟩ := H
      replace H := bN H
      obtain ⟨t470, A18, H⟩ := H
      by_cases c19 : t470 = true
      · subst c19
        rw [if_pos rfl] at H
        by_cases c20 : (t469 != t453) = true
        · rw [if_pos c20] at H
          have c20b0 : (t469 != t453) = true := c20
          (try (have c20b1 : decide (t469 = t453) = false := by simpa using c20))
          (try (have c20b2 : (t469 == t453) = false := by simpa using c20))
          (try (have c20b3 : ¬ (t469 = t453) := by simpa using c20))
          clear c20
          obtain rfl := Option.some.inj H
          exact laws_FnExactPaintObject.lf1
        · rw [if_neg c20] at H
          have c20b0 : (t469 != t453) = false := by simpa using c20
          (try (have c20b1 : decide (t469 = t453) = true := by simpa using c20))
          (try (have c20b2 : (t469 == t453) = true := by simpa using c20))
          clear c20
          replace H := bN H
          obtain ⟨t471, A41, H⟩ := H
          replace H := bN H
          obtain ⟨t474, A42, H⟩ := H
          by_cases c43 : t474 = true
          · subst c43
            rw [if_pos rfl] at H
            replace H := bN H
            obtain ⟨⟨t475, t478, t479, t480, t481, t482⟩, A44, H⟩ := H
            replace H := bN H
            obtain ⟨t483, A45, H⟩ := H
            by_cases c46 : t483 = true
            · subst c46
              rw [if_pos rfl] at H
              replace H := bN H
              obtain ⟨⟨t484, t485⟩, A47, H⟩ := H
              replace H := bN H
              obtain ⟨⟨t486, t487⟩, A48, H⟩ := H
              by_cases c49 : t486 < 0
              · rw [if_pos c49] at H
                have c49b0 : decide (t486 < 0) = true := decide_eq_true c49
                clear c49
                obtain rfl := Option.some.inj H
                exact laws_FnExactPaintObject.lf2
              · rw [if_neg c49] at H
                have c49b0 : decide (t486 < 0) = false := decide_eq_false c49
                clear c49
                replace H := bN H
                obtain ⟨t488, A79, H⟩ := H
                by_cases c80 : t488 = true
                · subst c80
                  rw [if_pos rfl] at H
                  replace H := bN H
                  obtain ⟨⟨t489, t490⟩, A81, H⟩ := H
                  replace H := bN H
                  obtain ⟨t491, A82, H⟩ := H
                  by_cases c83 : t491 < 0
                  · rw [if_pos c83] at H
                    have c83b0 : decide (t491 < 0) = true := decide_eq_true c83
                    clear c83
                    obtain rfl := Option.some.inj H
                    exact laws_FnExactPaintObject.lf2
                  · rw [if_neg c83] at H
                    have c83b0 : decide (t491 < 0) = false := decide_eq_false c83
                    clear c83
                    by_cases c114 : t491 = t489
                    · rw [if_pos c114] at H
                      have c114b0 : (t491 == t489) = true := beq_iff_eq.mpr c114
                      have c114b1 : (t491 != t489) = false := bne_eq_false_iff_eq.mpr c114
                      clear c114
                      replace H := bN H
                      obtain ⟨t492, A115, H⟩ := H
                      replace H := bN H
                      obtain ⟨⟨t495, t498, t499, t500, t501, t502⟩, A116, H⟩ := H
                      replace H := bN H
                      obtain ⟨⟨t503, t506⟩, A117, H⟩ := H
                      replace H := bN H
                      obtain ⟨t507, A118, H⟩ := H
                      by_cases c119 : t507 = true
                      · subst c119
                        rw [if_pos rfl] at H
                        by_cases c120 : (t506 != t453) = true
                        · rw [if_pos c120] at H
                          have c120b0 : (t506 != t453) = true := c120
                          (try (have c120b1 : decide (t506 = t453) = false := by simpa using c120))
                          (try (have c120b2 : (t506 == t453) = false := by simpa using c120))
                          (try (have c120b3 : ¬ (t506 = t453) := by simpa using c120))
                          clear c120
                          obtain rfl := Option.some.inj H
                          exact laws_FnExactPaintObject.lf3
                        · rw [if_neg c120] at H
                          have c120b0 : (t506 != t453) = false := by simpa using c120
                          (try (have c120b1 : decide (t506 = t453) = true := by simpa using c120))
                          (try (have c120b2 : (t506 == t453) = true := by simpa using c120))
                          clear c120
                          replace H := bN H
                          obtain ⟨t508, A158, H⟩ := H
                          by_cases c159 : t508 < 0
                          · rw [if_pos c159] at H
                            have c159b0 : decide (t508 < 0) = true := decide_eq_true c159
                            clear c159
                            obtain rfl := Option.some.inj H
                            exact laws_FnExactPaintObject.lf3
                          · rw [if_neg c159] at H
                            have c159b0 : decide (t508 < 0) = false := decide_eq_false c159
                            clear c159
                            by_cases c197 : t508 = t489
                            · rw [if_pos c197] at H
                              have c197b0 : (t508 == t489) = true := beq_iff_eq.mpr c197
                              have c197b1 : (t508 != t489) = false := bne_eq_false_iff_eq.mpr c197
                              clear c197
                              obtain rfl := Option.some.inj H
                              exact laws_FnExactPaintObject.lf3
                            · rw [if_neg c197] at H
                              have c197b0 : (t508 == t489) = false := beq_eq_false_iff_ne.mpr c197
                              have c197b1 : (t508 != t489) = true := bne_iff_ne.mpr c197
                              obtain rfl := Option.some.inj H
                              exact laws_FnExactPaintObject.lf3
                      · obtain rfl := Bool.eq_false_iff.mpr c119
                        rw [if_neg nF] at H
                        obtain rfl := Option.some.inj H
                        exact laws_FnExactPaintObject.lf3
                    · rw [if_neg c114] at H
                      have c114b0 : (t491 == t489) = false := beq_eq_false_iff_ne.mpr c114
                      have c114b1 : (t491 != t489) = true := bne_iff_ne.mpr c114
                      obtain rfl := Option.some.inj H
                      exact laws_FnExactPaintObject.lf2
                · obtain rfl := Bool.eq_false_iff.mpr c80
                  rw [if_neg nF] at H
                  obtain rfl := Option.some.inj H
                  exact laws_FnExactPaintObject.lf2
            · obtain rfl := Bool.eq_false_iff.mpr c46
              rw [if_neg nF] at H
              obtain rfl := Option.some.inj H
              go_enter Try.func9, Try.ntmps9
              try go_wp2_with (first | ((with_reducible refine gD 5 ?_); refine bxE #[.slice A2_0 l2_0.length c2_0, .int .i64 a2_1, .int .i64 a2_2, .int .i64 a2_3, .int .i64 a2_4, .int .i64 a2_5] 38 ?_; intro gb436 hg w368 BK436 hb; have GW436 := gE hg; have GE436 := gE hg; replace HB := hB hb; clear hb hg) | ((with_reducible refine gC 50 ?_); refine cL (some 21) Try.func50 #[.slice A0 l0.length c0, .int .i64 1048576] ?_; (with_reducible refine (laws_szIntSS.calls k _ _ l0 1048576 t437 _ ?side1 ?side2 A4.out).mono ?_); (case side1 => exact cS (Kd.C_below HR0.out HB.out)); (case side2 => exact HC0.out); rintro e w' ⟨rfl, ⟨nd, rfl⟩⟩; refine ⟨_, rfl, ?_⟩; (try (rw [drewN_self w368]; generalize hq_ : World.drewN w368 _ = w368; replace BK436 : Aside0 (w368.heap[gb436]? = some (.cells #[.slice A2_0 l2_0.length c2_0, .int .i64 a2_1, .int .i64 a2_2, .int .i64 a2_3, .int .i64 a2_4, .int .i64 a2_5] 38 (0, 0))) := ⟨by rw [← hq_]; exact kS⟩; replace HB : Aside0 (Below w.heap.size w w368) := ⟨by rw [← hq_]; exact bS⟩; clear hq_)); have hz369 := cz6 BK436) | ((with_reducible refine gC 23 ?_); refine cL (some 26) Try.func23 #[.agg #[.slice A2_0 l2_0.length c2_0, .int .i64 a2_1, .int .i64 a2_2, .int .i64 a2_3, .int .i64 a2_4, .int .i64 a2_5], .int .i64 t437] ?_; (with_reducible refine (laws_szObject.calls _ _ l2_0 a2_1 a2_2 a2_3 a2_4 a2_5 t437 t438 _ ?side1 ?side2 A7.out).mono ?_); (case side1 => exact cS (Kd.C_below HR2_0.out HB.out)); (case side2 => exact HC2_0.out); rintro e w370 ⟨rfl, hb⟩; refine ⟨_, rfl, ?_⟩; replace BK436 := kB (g := gb436) hb; replace HB := hB hb; (try clear hb); (try clear hb2); (try clear hk); (try clear hi)))
              replace BK436 := Aside0.mk (blk_drew BK436.out)
              replace HB := Aside0.mk (below_drew1 HB.out)
              refine start_ (n := 11) (S := fun w' => w'.cell? ⟨gb436, 0, none⟩ = some (.slice A2_0 l2_0.length c2_0) ∧ w'.cell? ⟨gb436, 1, none⟩ = some (.int .i64 a2_1) ∧ w'.cell? ⟨gb436, 2, none⟩ = some (.int .i64 a2_2) ∧ w'.cell? ⟨gb436, 3, none⟩ = some (.int .i64 a2_3) ∧ w'.cell? ⟨gb436, 4, none⟩ = some (.int .i64 a2_4) ∧ w'.cell? ⟨gb436, 5, none⟩ = some (.int .i64 a2_5)) (ds := []) #[false, false, false, false, false, false, false, false, false, false, false] (by kernel_rfl) rfl rfl ⟨(blk_cell BK436.out 0).trans rfl, (blk_cell BK436.out 1).trans rfl, (blk_cell BK436.out 2).trans rfl, (blk_cell BK436.out 3).trans rfl, (blk_cell BK436.out 4).trans rfl, (blk_cell BK436.out 5).trans rfl⟩ (fun hHeld => ?_); refine with_tabW laws_FnExactPaintObject.tab8 laws_FnExactPaintObject.bits8 (fun HT_ HW_ => ?_)
              generalize w370.drew = w371 at BK436 HB hHeld ⊢
              refine pure_ (i := 0) (N := some 30) (v := ?_) (a' := ?_) #[true, false, false, false, false, false, false, false, false, false, false] rfl rfl (any_of HT_.out (by kernel_rfl)) (fun _ _ _ h => h) (Or.inl ⟨by rfl, ?_⟩) ?_ ?_
              rotate_left
              · intro w'
                go_simp
                with_reducible rfl
              rotate_left
              · simp only [Act.put, List.setIfInBounds_toArray, List.set_cons_zero, List.set_cons_succ, i64_w, i32_w]
                rfl
              refine pure_ (i := 2) (N := some 32) (v := ?_) (a' := ?_) #[true, false, true, false, false, false, false, false, false, false, false] rfl rfl (any_of HT_.out (by kernel_rfl)) (fun _ _ _ h => h) (Or.inl ⟨by rfl, ?_⟩) ?_ ?_
              rotate_left
              · intro w'
                go_simp
                with_reducible rfl
              rotate_left
              · simp only [Act.put, List.setIfInBounds_toArray, List.set_cons_zero, List.set_cons_succ, i64_w, i32_w]
                rfl
              refine take_ (i := 3) (N := some 33) (v := ?_) (a' := ?_) #[true, false, true, true, false, false, false, false, false, false, false] rfl rfl (take_ofW HT_.out HW_.out (by kernel_rfl)) (fun _ _ _ h => h) (Or.inl ⟨by rfl, ?_⟩) hHeld ?_ ?_
              rotate_left
              · rintro w' ⟨s0, s1, s2, s3, s4, s5⟩
                go_simp
                with_reducible rfl
              rotate_left
              · simp only [Act.put, List.setIfInBounds_toArray, List.set_cons_zero, List.set_cons_succ, i64_w, i32_w]
                rfl
              refine one_ (i := 1) (N := some 31) #[true, true, true, true, false, false, false, false, false, false, false] rfl rfl (one_of HT_.out (by kernel_rfl)) (by decide) (fun K hK => ?_)
              refine goes_ Try.func52 (by kernel_rfl) rfl #[.slice A0 l0.length c0] (by rfl) rfl rfl (by (try simp only [List.map_toArray, List.map_cons, List.map_nil]); first | done | rfl | (simp only [List.length_drop, List.length_take]; rfl)) ?_
              with_reducible refine (laws_toIntSS.calls k _ _ l0 t439 _ ?side1 ?side2 A12.out).mono ?_
              (case side1 => exact cS (Kd.C_below HR0.out HB.out))
              (case side2 => exact HC0.out)
              rintro e w372 ⟨v440, rfl, ho0, hb⟩
              refine ⟨_, rfl, ?_⟩
              obtain ⟨b441, HZ441, hz441⟩ := S_born ho0
              have HL441 := Aside0.mk (show w.heap.size ≤ b441 from by rw [HZ441.out]; exact (below_size bS))
              have HO441 := Aside0.mk (hz441)
              replace BK436 := kB (g := gb436) hb
              replace HB := hB hb
              (try clear hb)
              (try clear hb2)
              (try clear hk)
              (try clear hi)
              (try clear ho0)
              refine hK.out _ _ ⟨(blk_cell BK436.out 0).trans rfl, (blk_cell BK436.out 1).trans rfl, (blk_cell BK436.out 2).trans rfl, (blk_cell BK436.out 3).trans rfl, (blk_cell BK436.out 4).trans rfl, (blk_cell BK436.out 5).trans rfl⟩ (fun hHeld => ?_)
              clear hK K
              refine norm_ (a' := ?_) ?_ ?_
              rotate_left
              · show Act.put _ (some 31) _ = _
                simp only [Act.put, List.setIfInBounds_toArray, List.set_cons_zero, List.set_cons_succ, i64_w, i32_w]
                rfl
              refine one_ (i := 4) (N := some 34) #[true, true, true, true, true, false, false, false, false, false, false] rfl rfl (one_of HT_.out (by kernel_rfl)) (by decide) (fun K hK => ?_)
              refine goes_ Try.func25 (by kernel_rfl) rfl #[.agg #[.slice A2_0 l2_0.length c2_0, .int .i64 a2_1, .int .i64 a2_2, .int .i64 a2_3, .int .i64 a2_4, .int .i64 a2_5]] (by rfl) rfl rfl (by (try simp only [List.map_toArray, List.map_cons, List.map_nil]); first | done | rfl | (simp only [List.length_drop, List.length_take]; rfl)) ?_
              with_reducible refine (laws_toObject.calls k _ _ l2_0 a2_1 a2_2 a2_3 a2_4 a2_5 t442 t445 t446 t447 t448 t449 _ ?side1 ?side2 A13.out).mono ?_
              (case side1 => exact cS (Kd.C_below HR2_0.out HB.out))
              (case side2 => exact HC2_0.out)
              rintro e w373 ⟨v443, rfl, ho0, hb⟩
              refine ⟨_, rfl, ?_⟩
              obtain ⟨b444, HZ444, hz444⟩ := R_born ho0
              have HL444 := Aside0.mk (show w.heap.size ≤ b444 from by rw [HZ444.out]; exact (below_size bS))
              have HO444 := Aside0.mk (hz444)
              replace HO441 := Aside0.mk (S_oldB (by (with_reducible repeat (first | apply Kd.S_alloc | apply Kd.S_drewN | apply Kd.S_drew)); exact HO441.out) hb HZ444.out)
              replace BK436 := kB (g := gb436) hb
              replace HB := hB hb
              (try clear hb)
              (try clear hb2)
              (try clear hk)
              (try clear hi)
              (try clear ho0)
              obtain ⟨Ao374, co374, eo374⟩ := Kd.S_slice HO441.out
              (first | subst eo374 | (injection eo374 with f1_ f2_ f3_; have f4_ := f1_.symm; have f5_ := f3_.symm; clear f1_ f2_ f3_; subst f4_; subst f5_))
              obtain ⟨Ao375, co375, eo375⟩ := Kd.R_slice HO444.out
              (first | subst eo375 | (injection eo375 with f1_ f2_ f3_; have f4_ := f1_.symm; have f5_ := f3_.symm; clear f1_ f2_ f3_; subst f4_; subst f5_))
              refine hK.out _ _ ⟨(blk_cell BK436.out 0).trans rfl, (blk_cell BK436.out 1).trans rfl, (blk_cell BK436.out 2).trans rfl, (blk_cell BK436.out 3).trans rfl, (blk_cell BK436.out 4).trans rfl, (blk_cell BK436.out 5).trans rfl⟩ (fun hHeld => ?_)
              clear hK K
              refine norm_ (a' := ?_) ?_ ?_
              rotate_left
              · show Act.put _ (some 34) _ = _
                simp only [Act.put, List.setIfInBounds_toArray, List.set_cons_zero, List.set_cons_succ, i64_w, i32_w]
                rfl
              refine one_ (i := 5) (N := some 35) #[true, true, true, true, true, true, false, false, false, false, false] rfl rfl (one_of HT_.out (by kernel_rfl)) (by decide) (fun K hK => ?_)
              refine goes_ Try.func51 (by kernel_rfl) rfl #[.slice Ao374 t439.length co374, .int .i64 a1, .agg #[.slice Ao375 t442.length co375, .int .i64 t445, .int .i64 t446, .int .i64 t447, .int .i64 t448, .int .i64 t449]] (by rfl) rfl rfl (by (try simp only [List.map_toArray, List.map_cons, List.map_nil]); first | done | rfl | (simp only [List.length_drop, List.length_take]; rfl)) ?_
              with_reducible refine (spec_PaintObject.calls k _ _ t439 a1 _ _ t442 t445 t446 t447 t448 t449 t450 t453 _ ?side1 ?side2 ?side3 ?side4 A14.out).mono ?_
              (case side1 => exact cS (Kd.S_reads' HO441.out).2.2)
              (case side2 => exact (Kd.S_reads' HO441.out).2.1)
              (case side3 => exact cS (Kd.R_reads' HO444.out).2.2)
              (case side4 => exact (Kd.R_reads' HO444.out).2.1)
              rintro e w376 ⟨v451, rfl, ho0, hb⟩
              refine ⟨_, rfl, ?_⟩
              obtain ⟨b452, HZ452, hz452⟩ := S_born ho0
              have HL452 := Aside0.mk (show w.heap.size ≤ b452 from by rw [HZ452.out]; exact (below_size bS))
              have HO452 := Aside0.mk (hz452)
              replace HO441 := Aside0.mk (S_oldB (by (with_reducible repeat (first | apply Kd.S_alloc | apply Kd.S_drewN | apply Kd.S_drew)); exact HO441.out) hb HZ452.out)
              replace HO444 := Aside0.mk (R_oldB (rS HO444) hb HZ452.out)
              replace BK436 := kB (g := gb436) hb
              replace HB := hB hb
              (try clear hb)
              (try clear hb2)
              (try clear hk)
              (try clear hi)
              (try clear ho0)
              refine hK.out _ _ ⟨(blk_cell BK436.out 0).trans rfl, (blk_cell BK436.out 1).trans rfl, (blk_cell BK436.out 2).trans rfl, (blk_cell BK436.out 3).trans rfl, (blk_cell BK436.out 4).trans rfl, (blk_cell BK436.out 5).trans rfl⟩ (fun hHeld => ?_)
              clear hK K
              refine norm_ (a' := ?_) ?_ ?_
              rotate_left
              · show Act.put _ (some 35) _ = _
                simp only [Act.put, List.setIfInBounds_toArray, List.set_cons_zero, List.set_cons_succ, i64_w, i32_w]
                rfl
              refine pure_ (i := 6) (N := some 29) (v := ?_) (a' := ?_) #[true, true, true, true, true, true, true, false, false, false, false] rfl rfl (any_of HT_.out (by kernel_rfl)) (fun _ _ _ h => h) (Or.inl ⟨by rfl, ?_⟩) ?_ ?_
              rotate_left
              · intro w'
                go_simp
                with_reducible rfl
              rotate_left
              · simp only [Act.put, List.setIfInBounds_toArray, List.set_cons_zero, List.set_cons_succ, i64_w, i32_w]
                rfl
              refine pure_ (i := 7) (N := some 36) (v := ?_) (a' := ?_) #[true, true, true, true, true, true, true, true, false, false, false] rfl rfl (any_of HT_.out (by kernel_rfl)) (fun _ _ _ h => h) (Or.inl ⟨by rfl, ?_⟩) ?_ ?_
              rotate_left
              · intro w'
                go_simp
                with_reducible rfl
              rotate_left
              · simp only [Act.put, List.setIfInBounds_toArray, List.set_cons_zero, List.set_cons_succ, i64_w, i32_w]
                rfl
              refine pure_ (i := 8) (N := some 37) (v := ?_) (a' := ?_) #[true, true, true, true, true, true, true, true, true, false, false] rfl rfl (any_of HT_.out (by kernel_rfl)) (fun _ _ _ h => h) (Or.inl ⟨by rfl, ?_⟩) ?_ ?_
              rotate_left
              · intro w'
                go_simp
                with_reducible rfl
              rotate_left
              · simp only [Act.put, List.setIfInBounds_toArray, List.set_cons_zero, List.set_cons_succ, i64_w, i32_w]
                rfl
              refine pure_ (i := 9) (N := some 8) (v := ?_) (a' := ?_) #[true, true, true, true, true, true, true, true, true, true, false] rfl rfl (any_of HT_.out (by kernel_rfl)) (fun _ _ _ h => h) (Or.inl ⟨by rfl, ?_⟩) ?_ ?_
              rotate_left
              · intro w'
                go_simp
                with_reducible rfl
              rotate_left
              · simp only [Act.put, List.setIfInBounds_toArray, List.set_cons_zero, List.set_cons_succ, i64_w, i32_w]
                rfl
              refine pure_ (i := 10) (N := some 9) (v := ?_) (a' := ?_) #[true, true, true, true, true, true, true, true, true, true, true] rfl rfl (any_of HT_.out (by kernel_rfl)) (fun _ _ _ h => h) (Or.inl ⟨by rfl, ?_⟩) ?_ ?_
              rotate_left
              · intro w'
                go_simp
                with_reducible rfl
              rotate_left
              · simp only [Act.put, List.setIfInBounds_toArray, List.set_cons_zero, List.set_cons_succ, i64_w, i32_w]
                rfl
              refine done_ (done_of HT_.out (by kernel_rfl)) ?_
              try go_wp2_with (first | ((with_reducible refine gC 52 ?_); refine cL (some 39) Try.func52 #[.slice A0 l0.length c0] ?_; (with_reducible refine (laws_toIntSS.calls k _ _ l0 t454 _ ?side1 ?side2 A15.out).mono ?_); (case side1 => exact cS (Kd.C_below HR0.out HB.out)); (case side2 => exact HC0.out); rintro e w377 ⟨v455, rfl, ho0, hb⟩; refine ⟨_, rfl, ?_⟩; obtain ⟨b456, HZ456, hz456⟩ := S_born ho0; have HL456 := Aside0.mk (show w.heap.size ≤ b456 from by rw [HZ456.out]; exact (below_size bS)); have HO456 := Aside0.mk (hz456); replace HO441 := Aside0.mk (S_oldB (by (with_reducible repeat (first | apply Kd.S_alloc | apply Kd.S_drewN | apply Kd.S_drew)); exact HO441.out) hb HZ456.out); replace HO444 := Aside0.mk (R_oldB (rS HO444) hb HZ456.out); replace HO452 := Aside0.mk (S_oldB (by (with_reducible repeat (first | apply Kd.S_alloc | apply Kd.S_drewN | apply Kd.S_drew)); exact HO452.out) hb HZ456.out); replace BK436 := kB (g := gb436) hb; replace HB := hB hb; (try clear hb); (try clear hb2); (try clear hk); (try clear hi); (try clear ho0); have hz378 := cz6 BK436) | ((with_reducible refine gC 25 ?_); refine cL (some 41) Try.func25 #[.agg #[.slice A2_0 l2_0.length c2_0, .int .i64 a2_1, .int .i64 a2_2, .int .i64 a2_3, .int .i64 a2_4, .int .i64 a2_5]] ?_; (with_reducible refine (laws_toObject.calls k _ _ l2_0 a2_1 a2_2 a2_3 a2_4 a2_5 t457 t460 t461 t462 t463 t464 _ ?side1 ?side2 A16.out).mono ?_); (case side1 => exact cS (Kd.C_below HR2_0.out HB.out)); (case side2 => exact HC2_0.out); rintro e w379 ⟨v458, rfl, ho0, hb⟩; refine ⟨_, rfl, ?_⟩; obtain ⟨b459, HZ459, hz459⟩ := R_born ho0; have HL459 := Aside0.mk (show w.heap.size ≤ b459 from by rw [HZ459.out]; exact (below_size bS)); have HO459 := Aside0.mk (hz459); replace HO441 := Aside0.mk (S_oldB (by (with_reducible repeat (first | apply Kd.S_alloc | apply Kd.S_drewN | apply Kd.S_drew)); exact HO441.out) hb HZ459.out); replace HO444 := Aside0.mk (R_oldB (rS HO444) hb HZ459.out); replace HO452 := Aside0.mk (S_oldB (by (with_reducible repeat (first | apply Kd.S_alloc | apply Kd.S_drewN | apply Kd.S_drew)); exact HO452.out) hb HZ459.out); replace HO456 := Aside0.mk (S_oldB (by (with_reducible repeat (first | apply Kd.S_alloc | apply Kd.S_drewN | apply Kd.S_drew)); exact HO456.out) hb HZ459.out); replace BK436 := kB (g := gb436) hb; replace HB := hB hb; (try clear hb); (try clear hb2); (try clear hk); (try clear hi); (try clear ho0)) | ((with_reducible refine gD 11 ?_); refine bxE #[.slice none 0 0, .int .i64 0, .int .i64 0, .int .i64 0, .int .i64 0, .int .i64 0] 45 ?_; intro gb465 hg w380 BK465 hb; have GW465 := gE hg; have GE465 := gE hg; have NB436_465 := nL (g := gb436) hg; have NB465_436 := nG (g := gb436) hg; replace HO441 := Aside0.mk (Kd.S_below (by (with_reducible repeat (first | apply Kd.S_alloc | apply Kd.S_drewN | apply Kd.S_drew)); exact HO441.out) hb); replace HO444 := Aside0.mk (Kd.R_below (rS HO444) hb); replace HO452 := Aside0.mk (Kd.S_below (by (with_reducible repeat (first | apply Kd.S_alloc | apply Kd.S_drewN | apply Kd.S_drew)); exact HO452.out) hb); replace HO456 := Aside0.mk (Kd.S_below (by (with_reducible repeat (first | apply Kd.S_alloc | apply Kd.S_drewN | apply Kd.S_drew)); exact HO456.out) hb); replace HO459 := Aside0.mk (Kd.R_below (rS HO459) hb); replace BK436 := kB (g := gb436) hb; replace HB := hB hb; clear hb hg; obtain ⟨Ao381, co381, eo381⟩ := Kd.R_slice HO459.out; subst eo381; have hnb382 := NB465_436.out; have hnc382 := NB436_465.out; have hz383 := cz6 BK465; obtain ⟨Ao384, co384, eo384⟩ := Kd.S_slice HO456.out; subst eo384) | ((with_reducible refine gC 53 ?_); refine cL (some 46) Try.func53 #[.slice Ao384 t454.length co384, .int .i64 a1, .agg #[.slice Ao381 t457.length co381, .int .i64 t460, .int .i64 t461, .int .i64 t462, .int .i64 t463, .int .i64 t464]] ?_; (with_reducible refine (impl_PaintObject.calls k _ _ t454 a1 _ _ t457 t460 t461 t462 t463 t464 t466 t469 _ ?side1 ?side2 ?side3 ?side4 A17.out).mono ?_); (case side1 => exact (Kd.S_reads' (e := 71) (n := t454.length) (c := co384) (by (with_reducible repeat (first | apply Kd.S_alloc | apply Kd.S_drewN | apply Kd.S_drew)); exact (Kd.S_mono (Kd.S_far (p := ⟨gb465, 5, none⟩) (Kd.S_far (p := ⟨gb465, 4, none⟩) (Kd.S_far (p := ⟨gb465, 3, none⟩) (Kd.S_far (p := ⟨gb465, 2, none⟩) (Kd.S_far (p := ⟨gb465, 1, none⟩) (Kd.S_far (p := ⟨gb465, 0, none⟩) (Kd.S_types HO456.out BK465.out (by decide)) (fun _ hk => hk.2) (.slice Ao381 t457.length co381)) (fun _ hk => hk.2) (.int .i64 t460)) (fun _ hk => hk.2) (.int .i64 t461)) (fun _ hk => hk.2) (.int .i64 t462)) (fun _ hk => hk.2) (.int .i64 t463)) (fun _ hk => hk.2) (.int .i64 t464)) (fun _ h_ => h_.1)))).2.2); (case side2 => exact (Kd.S_reads' HO456.out).2.1); (case side3 => exact (Kd.R_reads' (e := 171) (n := t457.length) (c := co381) (by (with_reducible repeat (first | apply Kd.R_alloc | apply Kd.R_drewN | apply Kd.R_drew)); exact (Kd.R_mono (Kd.R_far (p := ⟨gb465, 5, none⟩) (Kd.R_far (p := ⟨gb465, 4, none⟩) (Kd.R_far (p := ⟨gb465, 3, none⟩) (Kd.R_far (p := ⟨gb465, 2, none⟩) (Kd.R_far (p := ⟨gb465, 1, none⟩) (Kd.R_far (p := ⟨gb465, 0, none⟩) (Kd.R_types HO459.out BK465.out (by decide)) (fun _ hk => hk.2) (.slice Ao381 t457.length co381)) (fun _ hk => hk.2) (.int .i64 t460)) (fun _ hk => hk.2) (.int .i64 t461)) (fun _ hk => hk.2) (.int .i64 t462)) (fun _ hk => hk.2) (.int .i64 t463)) (fun _ hk => hk.2) (.int .i64 t464)) (fun _ h_ => h_.1)))).2.2); (case side4 => exact (Kd.R_reads' HO459.out).2.1); rintro e w385 ⟨v467, rfl, ho0, hb⟩; refine ⟨_, rfl, ?_⟩; obtain ⟨b468, HZ468, hz468⟩ := S_born ho0; have HL468 := Aside0.mk (show w.heap.size ≤ b468 from by rw [HZ468.out]; exact (below_size bS)); have HO468 := Aside0.mk (hz468); replace HO441 := Aside0.mk (S_oldB (by (with_reducible repeat (first | apply Kd.S_alloc | apply Kd.S_drewN | apply Kd.S_drew)); exact (Kd.S_mono (Kd.S_far (p := ⟨gb465, 5, none⟩) (Kd.S_far (p := ⟨gb465, 4, none⟩) (Kd.S_far (p := ⟨gb465, 3, none⟩) (Kd.S_far (p := ⟨gb465, 2, none⟩) (Kd.S_far (p := ⟨gb465, 1, none⟩) (Kd.S_far (p := ⟨gb465, 0, none⟩) (Kd.S_types HO441.out BK465.out (by decide)) (fun _ hk => hk.2) (.slice Ao381 t457.length co381)) (fun _ hk => hk.2) (.int .i64 t460)) (fun _ hk => hk.2) (.int .i64 t461)) (fun _ hk => hk.2) (.int .i64 t462)) (fun _ hk => hk.2) (.int .i64 t463)) (fun _ hk => hk.2) (.int .i64 t464)) (fun _ h_ => h_.1))) hb HZ468.out); replace HO444 := Aside0.mk (R_oldB (by (with_reducible repeat (first | apply Kd.R_alloc | apply Kd.R_drewN | apply Kd.R_drew)); exact (Kd.R_mono (Kd.R_far (p := ⟨gb465, 5, none⟩) (Kd.R_far (p := ⟨gb465, 4, none⟩) (Kd.R_far (p := ⟨gb465, 3, none⟩) (Kd.R_far (p := ⟨gb465, 2, none⟩) (Kd.R_far (p := ⟨gb465, 1, none⟩) (Kd.R_far (p := ⟨gb465, 0, none⟩) (Kd.R_types HO444.out BK465.out (by decide)) (fun _ hk => hk.2) (.slice Ao381 t457.length co381)) (fun _ hk => hk.2) (.int .i64 t460)) (fun _ hk => hk.2) (.int .i64 t461)) (fun _ hk => hk.2) (.int .i64 t462)) (fun _ hk => hk.2) (.int .i64 t463)) (fun _ hk => hk.2) (.int .i64 t464)) (fun _ h_ => h_.1))) hb HZ468.out); replace HO452 := Aside0.mk (S_oldB (by (with_reducible repeat (first | apply Kd.S_alloc | apply Kd.S_drewN | apply Kd.S_drew)); exact (Kd.S_mono (Kd.S_far (p := ⟨gb465, 5, none⟩) (Kd.S_far (p := ⟨gb465, 4, none⟩) (Kd.S_far (p := ⟨gb465, 3, none⟩) (Kd.S_far (p := ⟨gb465, 2, none⟩) (Kd.S_far (p := ⟨gb465, 1, none⟩) (Kd.S_far (p := ⟨gb465, 0, none⟩) (Kd.S_types HO452.out BK465.out (by decide)) (fun _ hk => hk.2) (.slice Ao381 t457.length co381)) (fun _ hk => hk.2) (.int .i64 t460)) (fun _ hk => hk.2) (.int .i64 t461)) (fun _ hk => hk.2) (.int .i64 t462)) (fun _ hk => hk.2) (.int .i64 t463)) (fun _ hk => hk.2) (.int .i64 t464)) (fun _ h_ => h_.1))) hb HZ468.out); replace HO456 := Aside0.mk (S_oldB (by (with_reducible repeat (first | apply Kd.S_alloc | apply Kd.S_drewN | apply Kd.S_drew)); exact (Kd.S_mono (Kd.S_far (p := ⟨gb465, 5, none⟩) (Kd.S_far (p := ⟨gb465, 4, none⟩) (Kd.S_far (p := ⟨gb465, 3, none⟩) (Kd.S_far (p := ⟨gb465, 2, none⟩) (Kd.S_far (p := ⟨gb465, 1, none⟩) (Kd.S_far (p := ⟨gb465, 0, none⟩) (Kd.S_types HO456.out BK465.out (by decide)) (fun _ hk => hk.2) (.slice Ao381 t457.length co381)) (fun _ hk => hk.2) (.int .i64 t460)) (fun _ hk => hk.2) (.int .i64 t461)) (fun _ hk => hk.2) (.int .i64 t462)) (fun _ hk => hk.2) (.int .i64 t463)) (fun _ hk => hk.2) (.int .i64 t464)) (fun _ h_ => h_.1))) hb HZ468.out); replace HO459 := Aside0.mk (R_oldB (by (with_reducible repeat (first | apply Kd.R_alloc | apply Kd.R_drewN | apply Kd.R_drew)); exact (Kd.R_mono (Kd.R_far (p := ⟨gb465, 5, none⟩) (Kd.R_far (p := ⟨gb465, 4, none⟩) (Kd.R_far (p := ⟨gb465, 3, none⟩) (Kd.R_far (p := ⟨gb465, 2, none⟩) (Kd.R_far (p := ⟨gb465, 1, none⟩) (Kd.R_far (p := ⟨gb465, 0, none⟩) (Kd.R_types HO459.out BK465.out (by decide)) (fun _ hk => hk.2) (.slice Ao381 t457.length co381)) (fun _ hk => hk.2) (.int .i64 t460)) (fun _ hk => hk.2) (.int .i64 t461)) (fun _ hk => hk.2) (.int .i64 t462)) (fun _ hk => hk.2) (.int .i64 t463)) (fun _ hk => hk.2) (.int .i64 t464)) (fun _ h_ => h_.1))) hb HZ468.out); replace BK436 := kB (g := gb436) hb; replace BK465 := Aside0.mk (blk_below (g := gb465) (o := .cells #[.slice Ao381 t457.length co381, .int .i64 t460, .int .i64 t461, .int .i64 t462, .int .i64 t463, .int .i64 t464] 45 (0, 0)) kS hb); replace HB := hB hb; (try clear hb); (try clear hb2); (try clear hk); (try clear hi); (try clear ho0); obtain ⟨Ao386, co386, eo386⟩ := Kd.S_slice HO468.out; subst eo386; obtain ⟨Ao387, co387, eo387⟩ := Kd.S_slice HO452.out; subst eo387) | ((with_reducible refine gC 54 ?_); refine cL (some 51) Try.func54 #[.slice Ao386 t466.length co386, .slice Ao387 t450.length co387] ?_; (with_reducible refine (laws_eqIntSS.calls k _ _ t466 _ _ t450 _ _ ?side1 ?side2 ?side3 ?side4 A18.out).mono ?_); (case side1 => exact cS (Kd.S_reads' HO468.out).2.2); (case side2 => exact (Kd.S_reads' HO468.out).2.1); (case side3 => exact cS (Kd.S_reads' HO452.out).2.2); (case side4 => exact (Kd.S_reads' HO452.out).2.1); rintro e w' ⟨rfl, ⟨nd, rfl⟩⟩; refine ⟨_, rfl, ?_⟩) | ((with_reducible refine gC 52 ?_); refine cL (some 60) Try.func52 #[.slice A0 l0.length c0] ?_; (with_reducible refine (laws_toIntSS.calls k _ _ l0 t471 _ ?side1 ?side2 A41.out).mono ?_); (case side1 => exact cS (Kd.C_below HR0.out bS)); (case side2 => exact HC0.out); rintro e w388 ⟨v472, rfl, ho0, hb⟩; refine ⟨_, rfl, ?_⟩; obtain ⟨b473, HZ473, hz473⟩ := S_born ho0; have HL473 := Aside0.mk (show w.heap.size ≤ b473 from by rw [HZ473.out]; exact (below_size bS)); have HO473 := Aside0.mk (hz473); replace HO441 := Aside0.mk (S_oldB (by (with_reducible repeat (first | apply Kd.S_alloc | apply Kd.S_drewN | apply Kd.S_drew)); exact HO441.out) hb HZ473.out); replace HO444 := Aside0.mk (R_oldB (rS HO444) hb HZ473.out); replace HO452 := Aside0.mk (S_oldB (by (with_reducible repeat (first | apply Kd.S_alloc | apply Kd.S_drewN | apply Kd.S_drew)); exact HO452.out) hb HZ473.out); replace HO456 := Aside0.mk (S_oldB (by (with_reducible repeat (first | apply Kd.S_alloc | apply Kd.S_drewN | apply Kd.S_drew)); exact HO456.out) hb HZ473.out); replace HO459 := Aside0.mk (R_oldB (rS HO459) hb HZ473.out); replace HO468 := Aside0.mk (S_oldB (by (with_reducible repeat (first | apply Kd.S_alloc | apply Kd.S_drewN | apply Kd.S_drew)); exact HO468.out) hb HZ473.out); replace BK436 := kB (g := gb436) hb; replace BK465 := kB (g := gb465) hb; replace HB := hB hb; (try clear hb); (try clear hb2); (try clear hk); (try clear hi); (try clear ho0); obtain ⟨Ao389, co389, eo389⟩ := Kd.S_slice HO473.out; subst eo389) | ((with_reducible refine gC 54 ?_); refine cL (some 61) Try.func54 #[.slice Ao384 t454.length co384, .slice Ao389 t471.length co389] ?_; (with_reducible refine (laws_eqIntSS.calls k _ _ t454 _ _ t471 _ _ ?side1 ?side2 ?side3 ?side4 A42.out).mono ?_); (case side1 => exact cS (Kd.S_reads' HO456.out).2.2); (case side2 => exact (Kd.S_reads' HO456.out).2.1); (case side3 => exact cS (Kd.S_reads' HO473.out).2.2); (case side4 => exact (Kd.S_reads' HO473.out).2.1); rintro e w' ⟨rfl, ⟨nd, rfl⟩⟩; refine ⟨_, rfl, ?_⟩))
              (try (rw [drewN_self w388]; generalize hq_ : World.drewN w388 _ = w388; replace HO441 : Aside0 (Kd.S (Kd.slice 3 (Kd.int .i64)) 71 w388 b441 (fun k_ => ((((((True ∧ k_ < b444) ∧ k_ < b452) ∧ k_ < b456) ∧ k_ < b459) ∧ k_ < b468) ∧ k_ < b473)) (.slice Ao374 t439.length co374) t439) := ⟨by rw [← hq_]; exact (by (with_reducible repeat (first | apply Kd.S_alloc | apply Kd.S_drewN | apply Kd.S_drew)); exact HO441.out)⟩; replace HO444 : Aside0 (Kd.R k171 171 w388 b444 (fun k_ => (((((True ∧ k_ < b452) ∧ k_ < b456) ∧ k_ < b459) ∧ k_ < b468) ∧ k_ < b473)) (.slice Ao375 t442.length co375) t442) := ⟨by rw [← hq_]; exact (rS HO444)⟩; replace HO452 : Aside0 (Kd.S (Kd.slice 3 (Kd.int .i64)) 71 w388 b452 (fun k_ => ((((True ∧ k_ < b456) ∧ k_ < b459) ∧ k_ < b468) ∧ k_ < b473)) (.slice Ao387 t450.length co387) t450) := ⟨by rw [← hq_]; exact (by (with_reducible repeat (first | apply Kd.S_alloc | apply Kd.S_drewN | apply Kd.S_drew)); exact HO452.out)⟩; replace HO456 : Aside0 (Kd.S (Kd.slice 3 (Kd.int .i64)) 71 w388 b456 (fun k_ => (((True ∧ k_ < b459) ∧ k_ < b468) ∧ k_ < b473)) (.slice Ao384 t454.length co384) t454) := ⟨by rw [← hq_]; exact (by (with_reducible repeat (first | apply Kd.S_alloc | apply Kd.S_drewN | apply Kd.S_drew)); exact HO456.out)⟩; replace HO459 : Aside0 (Kd.R k171 171 w388 b459 (fun k_ => ((True ∧ k_ < b468) ∧ k_ < b473)) (.slice Ao381 t457.length co381) t457) := ⟨by rw [← hq_]; exact (rS HO459)⟩; replace HO468 : Aside0 (Kd.S (Kd.slice 3 (Kd.int .i64)) 71 w388 b468 (fun k_ => (True ∧ k_ < b473)) (.slice Ao386 t466.length co386) t466) := ⟨by rw [← hq_]; exact (by (with_reducible repeat (first | apply Kd.S_alloc | apply Kd.S_drewN | apply Kd.S_drew)); exact HO468.out)⟩; replace HO473 : Aside0 (Kd.S (Kd.slice 3 (Kd.int .i64)) 71 w388 b473 (fun _ => True) (.slice Ao389 t471.length co389) t471) := ⟨by rw [← hq_]; exact (by (with_reducible repeat (first | apply Kd.S_alloc | apply Kd.S_drewN | apply Kd.S_drew)); exact HO473.out)⟩; replace BK436 : Aside0 (w388.heap[gb436]? = some (.cells #[.slice A2_0 l2_0.length c2_0, .int .i64 a2_1, .int .i64 a2_2, .int .i64 a2_3, .int .i64 a2_4, .int .i64 a2_5] 38 (0, 0))) := ⟨by rw [← hq_]; exact kS⟩; replace BK465 : Aside0 (w388.heap[gb465]? = some (.cells #[.slice Ao381 t457.length co381, .int .i64 t460, .int .i64 t461, .int .i64 t462, .int .i64 t463, .int .i64 t464] 45 (0, 0))) := ⟨by rw [← hq_]; exact kS⟩; replace HB : Aside0 (Below w.heap.size w w388) := ⟨by rw [← hq_]; exact bS⟩; clear hq_))
              replace HO441 := Aside0.mk (Kd.S_drew HO441.out)
              replace HO444 := Aside0.mk (Kd.R_drew HO444.out)
              replace HO452 := Aside0.mk (Kd.S_drew HO452.out)
              replace HO456 := Aside0.mk (Kd.S_drew HO456.out)
              replace HO459 := Aside0.mk (Kd.R_drew HO459.out)
              replace HO468 := Aside0.mk (Kd.S_drew HO468.out)
              replace HO473 := Aside0.mk (Kd.S_drew HO473.out)
              replace BK436 := Aside0.mk (blk_drew BK436.out)
              replace BK465 := Aside0.mk (blk_drew BK465.out)
              replace HB := Aside0.mk (below_drew1 HB.out)
              refine start_ (n := 5) (S := fun w' => w'.cell? ⟨gb465, 0, none⟩ = some (.slice Ao381 t457.length co381) ∧ w'.cell? ⟨gb465, 1, none⟩ = some (.int .i64 t460) ∧ w'.cell? ⟨gb465, 2, none⟩ = some (.int .i64 t461) ∧ w'.cell? ⟨gb465, 3, none⟩ = some (.int .i64 t462) ∧ w'.cell? ⟨gb465, 4, none⟩ = some (.int .i64 t463) ∧ w'.cell? ⟨gb465, 5, none⟩ = some (.int .i64 t464) ∧ w'.cell? ⟨gb436, 0, none⟩ = some (.slice A2_0 l2_0.length c2_0) ∧ w'.cell? ⟨gb436, 1, none⟩ = some (.int .i64 a2_1) ∧ w'.cell? ⟨gb436, 2, none⟩ = some (.int .i64 a2_2) ∧ w'.cell? ⟨gb436, 3, none⟩ = some (.int .i64 a2_3) ∧ w'.cell? ⟨gb436, 4, none⟩ = some (.int .i64 a2_4) ∧ w'.cell? ⟨gb436, 5, none⟩ = some (.int .i64 a2_5)) (ds := []) #[false, false, false, false, false] (by kernel_rfl) rfl rfl ⟨(blk_cell BK465.out 0).trans rfl, (blk_cell BK465.out 1).trans rfl, (blk_cell BK465.out 2).trans rfl, (blk_cell BK465.out 3).trans rfl, (blk_cell BK465.out 4).trans rfl, (blk_cell BK465.out 5).trans rfl, (blk_cell BK436.out 0).trans rfl, (blk_cell BK436.out 1).trans rfl, (blk_cell BK436.out 2).trans rfl, (blk_cell BK436.out 3).trans rfl, (blk_cell BK436.out 4).trans rfl, (blk_cell BK436.out 5).trans rfl⟩ (fun hHeld => ?_)
              generalize w388.drew = w390 at HO441 HO444 HO452 HO456 HO459 HO468 HO473 BK436 BK465 HB hHeld ⊢
              refine take_ (i := 0) (N := some 63) (v := ?_) (a' := ?_) #[true, false, false, false, false] rfl rfl (by kernel_rfl) (fun _ _ _ h => h) (Or.inl ⟨by rfl, ?_⟩) hHeld ?_ ?_
              rotate_left
              · rintro w' ⟨s0, s1, s2, s3, s4, s5, s6, s7, s8, s9, s10, s11⟩
                go_simp
                with_reducible rfl
              rotate_left
              · simp only [Act.put, List.setIfInBounds_toArray, List.set_cons_zero, List.set_cons_succ, i64_w, i32_w]
                rfl
              refine take_ (i := 1) (N := some 64) (v := ?_) (a' := ?_) #[true, true, false, false, false] rfl rfl (by kernel_rfl) (fun _ _ _ h => h) (Or.inl ⟨by rfl, ?_⟩) hHeld ?_ ?_
              rotate_left
              · rintro w' ⟨s0, s1, s2, s3, s4, s5, s6, s7, s8, s9, s10, s11⟩
                go_simp
                with_reducible rfl
              rotate_left
              · simp only [Act.put, List.setIfInBounds_toArray, List.set_cons_zero, List.set_cons_succ, i64_w, i32_w]
                rfl
              refine one_ (i := 2) (N := some 65) #[true, true, true, false, false] rfl rfl (by kernel_rfl) (by decide) (fun K hK => ?_)
              refine goes_ Try.func25 (by kernel_rfl) rfl #[.agg #[.slice A2_0 l2_0.length c2_0, .int .i64 a2_1, .int .i64 a2_2, .int .i64 a2_3, .int .i64 a2_4, .int .i64 a2_5]] (by rfl) rfl rfl (by (try simp only [List.map_toArray, List.map_cons, List.map_nil]); first | done | rfl | (simp only [List.length_drop, List.length_take]; rfl)) ?_
              with_reducible refine (laws_toObject.calls k _ _ l2_0 a2_1 a2_2 a2_3 a2_4 a2_5 t475 t478 t479 t480 t481 t482 _ ?side1 ?side2 A44.out).mono ?_
              (case side1 => exact cS (Kd.C_below HR2_0.out HB.out))
              (case side2 => exact HC2_0.out)
              rintro e w391 ⟨v476, rfl, ho0, hb⟩
              refine ⟨_, rfl, ?_⟩
              obtain ⟨b477, HZ477, hz477⟩ := R_born ho0
              have HL477 := Aside0.mk (show w.heap.size ≤ b477 from by rw [HZ477.out]; exact (below_size bS))
              have HO477 := Aside0.mk (hz477)
              replace HO441 := Aside0.mk (S_oldB (by (with_reducible repeat (first | apply Kd.S_alloc | apply Kd.S_drewN | apply Kd.S_drew)); exact HO441.out) hb HZ477.out)
              replace HO444 := Aside0.mk (R_oldB (rS HO444) hb HZ477.out)
              replace HO452 := Aside0.mk (S_oldB (by (with_reducible repeat (first | apply Kd.S_alloc | apply Kd.S_drewN | apply Kd.S_drew)); exact HO452.out) hb HZ477.out)
              replace HO456 := Aside0.mk (S_oldB (by (with_reducible repeat (first | apply Kd.S_alloc | apply Kd.S_drewN | apply Kd.S_drew)); exact HO456.out) hb HZ477.out)
              replace HO459 := Aside0.mk (R_oldB (rS HO459) hb HZ477.out)
              replace HO468 := Aside0.mk (S_oldB (by (with_reducible repeat (first | apply Kd.S_alloc | apply Kd.S_drewN | apply Kd.S_drew)); exact HO468.out) hb HZ477.out)
              replace HO473 := Aside0.mk (S_oldB (by (with_reducible repeat (first | apply Kd.S_alloc | apply Kd.S_drewN | apply Kd.S_drew)); exact HO473.out) hb HZ477.out)
              replace BK436 := kB (g := gb436) hb
              replace BK465 := kB (g := gb465) hb
              replace HB := hB hb
              (try clear hb)
              (try clear hb2)
              (try clear hk)
              (try clear hi)
              (try clear ho0)
              obtain ⟨Ao392, co392, eo392⟩ := Kd.R_slice HO477.out
              (first | subst eo392 | (injection eo392 with f1_ f2_ f3_; have f4_ := f1_.symm; have f5_ := f3_.symm; clear f1_ f2_ f3_; subst f4_; subst f5_))
              refine hK.out _ _ ⟨(blk_cell BK465.out 0).trans rfl, (blk_cell BK465.out 1).trans rfl, (blk_cell BK465.out 2).trans rfl, (blk_cell BK465.out 3).trans rfl, (blk_cell BK465.out 4).trans rfl, (blk_cell BK465.out 5).trans rfl, (blk_cell BK436.out 0).trans rfl, (blk_cell BK436.out 1).trans rfl, (blk_cell BK436.out 2).trans rfl, (blk_cell BK436.out 3).trans rfl, (blk_cell BK436.out 4).trans rfl, (blk_cell BK436.out 5).trans rfl⟩ (fun hHeld => ?_)
              clear hK K
              refine norm_ (a' := ?_) ?_ ?_
              rotate_left
              · show Act.put _ (some 65) _ = _
                simp only [Act.put, List.setIfInBounds_toArray, List.set_cons_zero, List.set_cons_succ, i64_w, i32_w]
                rfl
              refine one_ (i := 3) (N := some 66) #[true, true, true, true, false] rfl rfl (by kernel_rfl) (by decide) (fun K hK => ?_)
              refine goes_ Try.func28 (by kernel_rfl) rfl #[.agg #[.slice Ao381 t457.length co381, .int .i64 t460, .int .i64 t461, .int .i64 t462, .int .i64 t463, .int .i64 t464], .agg #[.slice Ao392 t475.length co392, .int .i64 t478, .int .i64 t479, .int .i64 t480, .int .i64 t481, .int .i64 t482]] (by rfl) rfl rfl (by (try simp only [List.map_toArray, List.map_cons, List.map_nil]); first | done | rfl | (simp only [List.length_drop, List.length_take]; rfl)) ?_
              with_reducible refine (laws_eqObject.calls k _ _ t457 t460 t461 t462 t463 t464 _ _ t475 t478 t479 t480 t481 t482 _ _ ?side1 ?side2 ?side3 ?side4 A45.out).mono ?_
              (case side1 => exact cS (Kd.R_reads' HO459.out).2.2)
              (case side2 => exact (Kd.R_reads' HO459.out).2.1)
              (case side3 => exact cS (Kd.R_reads' HO477.out).2.2)
              (case side4 => exact (Kd.R_reads' HO477.out).2.1)
              rintro e w393 ⟨rfl, hb⟩
              refine ⟨_, rfl, ?_⟩
              replace HO441 := Aside0.mk (Kd.S_below (by (with_reducible repeat (first | apply Kd.S_alloc | apply Kd.S_drewN | apply Kd.S_drew)); exact HO441.out) hb)
              replace HO444 := Aside0.mk (Kd.R_below (rS HO444) hb)
              replace HO452 := Aside0.mk (Kd.S_below (by (with_reducible repeat (first | apply Kd.S_alloc | apply Kd.S_drewN | apply Kd.S_drew)); exact HO452.out) hb)
              replace HO456 := Aside0.mk (Kd.S_below (by (with_reducible repeat (first | apply Kd.S_alloc | apply Kd.S_drewN | apply Kd.S_drew)); exact HO456.out) hb)
              replace HO459 := Aside0.mk (Kd.R_below (rS HO459) hb)
              replace HO468 := Aside0.mk (Kd.S_below (by (with_reducible repeat (first | apply Kd.S_alloc | apply Kd.S_drewN | apply Kd.S_drew)); exact HO468.out) hb)
              replace HO473 := Aside0.mk (Kd.S_below (by (with_reducible repeat (first | apply Kd.S_alloc | apply Kd.S_drewN | apply Kd.S_drew)); exact HO473.out) hb)
              replace HO477 := Aside0.mk (Kd.R_below (rS HO477) hb)
              replace BK436 := kB (g := gb436) hb
              replace BK465 := kB (g := gb465) hb
              replace HB := hB hb
              (try clear hb)
              (try clear hb2)
              (try clear hk)
              (try clear hi)
              refine hK.out _ _ ⟨(blk_cell BK465.out 0).trans rfl, (blk_cell BK465.out 1).trans rfl, (blk_cell BK465.out 2).trans rfl, (blk_cell BK465.out 3).trans rfl, (blk_cell BK465.out 4).trans rfl, (blk_cell BK465.out 5).trans rfl, (blk_cell BK436.out 0).trans rfl, (blk_cell BK436.out 1).trans rfl, (blk_cell BK436.out 2).trans rfl, (blk_cell BK436.out 3).trans rfl, (blk_cell BK436.out 4).trans rfl, (blk_cell BK436.out 5).trans rfl⟩ (fun hHeld => ?_)
              clear hK K
              refine norm_ (a' := ?_) ?_ ?_
              rotate_left
              · show Act.put _ (some 66) _ = _
                simp only [Act.put, List.setIfInBounds_toArray, List.set_cons_zero, List.set_cons_succ, i64_w, i32_w]
                rfl
              refine pure_ (i := 4) (N := some 67) (v := ?_) (a' := ?_) #[true, true, true, true, true] rfl rfl (by kernel_rfl) (fun _ _ _ h => h) (Or.inl ⟨by rfl, ?_⟩) ?_ ?_
              rotate_left
              · intro w'
                go_simp
                with_reducible rfl
              rotate_left
              · simp only [Act.put, List.setIfInBounds_toArray, List.set_cons_zero, List.set_cons_succ, i64_w, i32_w]
                rfl
              refine done_ (by kernel_rfl) ?_
              try go_wp2
              go_ret
              exact ⟨eS, bS⟩
          · obtain rfl := Bool.eq_false_iff.mpr c43
            rw [if_neg nF] at H
            obtain rfl := Option.some.inj H
            exact laws_FnExactPaintObject.lf1
      · obtain rfl := Bool.eq_false_iff.mpr c19
        rw [if_neg nF] at H
        obtain rfl := Option.some.inj H
        exact laws_FnExactPaintObject.lf1

end Go.Proofs.Ytigodjcnkgebaaa.QFnExactPaintObject
