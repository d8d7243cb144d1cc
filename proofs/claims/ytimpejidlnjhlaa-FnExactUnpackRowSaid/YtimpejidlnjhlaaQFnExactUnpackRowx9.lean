-- Made out of the translation by a program of this session (a changed copy of the print). Not trusted: Lean checks it.
import Derived.Test.YtimpejidlnjhlaaQFnExactUnpackRowx0
import Derived.Test.YtimpejidlnjhlaaQFnExactUnpackRowx1
import Derived.Test.YtimpejidlnjhlaaQFnExactUnpackRowx5
import Derived.Test.YtimpejidlnjhlaaQFnExactUnpackRowx6
import Derived.Test.YtimpejidlnjhlaaQFnExactUnpackRowx8
namespace Go.Proofs.Ytimpejidlnjhlaa.QFnExactUnpackRow
open Go.RowKit Go.Proofs.YtimpejidlnjhlaaW.PrintWords Go.Proofs.YtimpejidlnjhlaaW.PrintLast Go.Proofs.YtimpejidlnjhlaaW.PrintMore
attribute [local go_sem] max2_int min2_int max_two min_two max_three min_three max_four min_four   -- for this text's walks alone
set_option linter.unusedVariables false
set_option linter.unusedSimpArgs false
set_option maxHeartbeats 8000000
set_option maxRecDepth 100000

/-! ### laws_FnExactUnpackRow: function 3 -/
def laws_FnExactUnpackRow.f (k : Nat) (a0_0 : Bool) (l0_1 : List Int) : Option (Bool) := (laws_szPacked.f a0_0 l0_1 1048576).bind fun t290 => (if t290 < 0 then (some true) else ((laws_toPacked.f k a0_0 l0_1).bind fun bt291 => ((spec_UnpackRow.f k bt291.1 bt291.2).bind fun bt295 => ((laws_toPacked.f k a0_0 l0_1).bind fun bt299 => ((impl_UnpackRow.f k bt299.1 bt299.2).bind fun bt304 => ((laws_eqIntS.f k bt304.1 bt295.1).bind fun t308 => (if t308 = true then (if (bt304.2 != bt295.2) = true then (some false) else ((laws_toPacked.f k a0_0 l0_1).bind fun bt309 => ((laws_eqPacked.f k bt299.1 bt299.2 bt309.1 bt309.2).bind fun t313 => (if t313 = true then ((laws_markPacked.f k bt299.1 bt299.2 1).bind fun bt314 => (if bt314.1 < 0 then (some false) else ((laws_eqIntS.f k bt304.1 bt295.1).bind fun t316 => (if t316 = true then ((laws_markIntS.f k bt304.1 1).bind fun bt317 => ((laws_heldIntS.f k bt317.2 1).bind fun t319 => (if t319 < 0 then (some false) else (if t319 = bt317.1 then ((laws_toPacked.f k a0_0 l0_1).bind fun bt320 => ((impl_UnpackRow.f k bt320.1 bt320.2).bind fun bt324 => ((laws_eqIntS.f k bt324.1 bt295.1).bind fun t328 => (if t328 = true then (if (bt324.2 != bt295.2) = true then (some false) else ((laws_heldIntS.f k bt317.2 1).bind fun t329 => (if t329 < 0 then (some false) else (if t329 = bt317.1 then (some true) else (some false))))) else (some false))))) else (some false))))) else (some false))))) else (some false))))) else (some false))))))))
theorem laws_FnExactUnpackRow.lf0 {p : Prop} (h : p := by
  go_enter Try.func3, Try.ntmps3
  go_wp2_with (first | ((with_reducible refine gD 1 ?_); refine bxE #[.bool a0_0, .slice A0_1 l0_1.length c0_1] 24 ?_; intro gb289 hg w299 BK289 hb; have GW289 := gE hg; have GE289 := gE hg; replace HB := hB hb; clear hb hg; have hz300 := cz2 BK289) | ((with_reducible refine gC 15 ?_); refine cL (some 16) Try.func15 #[.agg #[.bool a0_0, .slice A0_1 l0_1.length c0_1], .int .i64 1048576] ?_; (with_reducible refine (laws_szPacked.calls a0_0 _ _ l0_1 1048576 t290 _ ?side1 ?side2 A2.out).mono ?_); (case side1 => exact cS (Kd.C_below HR0_1.out HB.out)); (case side2 => exact HC0_1.out); rintro e w301 ⟨rfl, hb⟩; refine ⟨_, rfl, ?_⟩; replace BK289 := kB (g := gb289) hb; replace HB := hB hb; (try clear hb); (try clear hb2); (try clear hk); (try clear hi); have hz302 := cz2 BK289) | ((with_reducible refine gC 17 ?_); refine cL (some 21) Try.func17 #[.agg #[.bool a0_0, .slice A0_1 l0_1.length c0_1]] ?_; (with_reducible refine (laws_toPacked.calls k a0_0 _ _ l0_1 t291 t292 _ ?side1 ?side2 A7.out).mono ?_); (case side1 => exact cS (Kd.C_below HR0_1.out HB.out)); (case side2 => exact HC0_1.out); rintro e w303 ⟨v293, rfl, ho0, hb⟩; refine ⟨_, rfl, ?_⟩; obtain ⟨b294, HZ294, hz294⟩ := R_born ho0; have HL294 := Aside0.mk (show w.heap.size ≤ b294 from by rw [HZ294.out]; exact (below_size bS)); have HO294 := Aside0.mk (hz294); replace BK289 := kB (g := gb289) hb; replace HB := hB hb; (try clear hb); (try clear hb2); (try clear hk); (try clear hi); (try clear ho0); obtain ⟨Ao304, co304, eo304⟩ := Kd.R_slice HO294.out; subst eo304) | ((with_reducible refine gC 16 ?_); refine cL (some 22) Try.func16 #[.agg #[.bool t291, .slice Ao304 t292.length co304]] ?_; (with_reducible refine (spec_UnpackRow.calls k t291 _ _ t292 t295 t298 _ ?side1 ?side2 A8.out).mono ?_); (case side1 => exact cS (Kd.R_reads' HO294.out).2.2); (case side2 => exact (Kd.R_reads' HO294.out).2.1); rintro e w305 ⟨v296, rfl, ho0, hb⟩; refine ⟨_, rfl, ?_⟩; obtain ⟨b297, HZ297, hz297⟩ := R_born ho0; have HL297 := Aside0.mk (show w.heap.size ≤ b297 from by rw [HZ297.out]; exact (below_size bS)); have HO297 := Aside0.mk (hz297); replace HO294 := Aside0.mk (R_oldB (rS HO294) hb HZ297.out); replace BK289 := kB (g := gb289) hb; replace HB := hB hb; (try clear hb); (try clear hb2); (try clear hk); (try clear hi); (try clear ho0); have hz306 := cz2 BK289) | ((with_reducible refine gC 17 ?_); refine cL (some 26) Try.func17 #[.agg #[.bool a0_0, .slice A0_1 l0_1.length c0_1]] ?_; (with_reducible refine (laws_toPacked.calls k a0_0 _ _ l0_1 t299 t300 _ ?side1 ?side2 A9.out).mono ?_); (case side1 => exact cS (Kd.C_below HR0_1.out HB.out)); (case side2 => exact HC0_1.out); rintro e w307 ⟨v301, rfl, ho0, hb⟩; refine ⟨_, rfl, ?_⟩; obtain ⟨b302, HZ302, hz302⟩ := R_born ho0; have HL302 := Aside0.mk (show w.heap.size ≤ b302 from by rw [HZ302.out]; exact (below_size bS)); have HO302 := Aside0.mk (hz302); replace HO294 := Aside0.mk (R_oldB (rS HO294) hb HZ302.out); replace HO297 := Aside0.mk (R_oldB (rS HO297) hb HZ302.out); replace BK289 := kB (g := gb289) hb; replace HB := hB hb; (try clear hb); (try clear hb2); (try clear hk); (try clear hi); (try clear ho0)) | ((with_reducible refine gD 6 ?_); refine bxE #[.bool false, .slice none 0 0] 28 ?_; intro gb303 hg w308 BK303 hb; have GW303 := gE hg; have GE303 := gE hg; have NB289_303 := nL (g := gb289) hg; have NB303_289 := nG (g := gb289) hg; replace HO294 := Aside0.mk (Kd.R_below (rS HO294) hb); replace HO297 := Aside0.mk (Kd.R_below (rS HO297) hb); replace HO302 := Aside0.mk (Kd.R_below (rS HO302) hb); replace BK289 := kB (g := gb289) hb; replace HB := hB hb; clear hb hg; have hnb309 := NB303_289.out; have hnc309 := NB289_303.out; have hz310 := cz2 BK303; obtain ⟨Ao311, co311, eo311⟩ := Kd.R_slice HO302.out; subst eo311) | ((with_reducible refine gC 18 ?_); refine cL (some 29) Try.func18 #[.agg #[.bool t299, .slice Ao311 t300.length co311]] ?_; (with_reducible refine (impl_UnpackRow.calls k t299 _ _ t300 t304 t307 _ ?side1 ?side2 A10.out).mono ?_); (case side1 => exact (Kd.R_reads' (e := 3) (n := t300.length) (c := co311) (by (with_reducible repeat (first | apply Kd.R_alloc | apply Kd.R_drewN | apply Kd.R_drew)); exact (Kd.R_mono (Kd.R_far (p := ⟨gb303, 1, none⟩) (Kd.R_far (p := ⟨gb303, 0, none⟩) (Kd.R_types HO302.out BK303.out (by decide)) (fun _ hk => hk.2) (.bool t299)) (fun _ hk => hk.2) (.slice Ao311 t300.length co311)) (fun _ h_ => h_.1)))).2.2); (case side2 => exact (Kd.R_reads' HO302.out).2.1); rintro e w312 ⟨v305, rfl, ho0, hb⟩; refine ⟨_, rfl, ?_⟩; obtain ⟨b306, HZ306, hz306⟩ := R_born ho0; have HL306 := Aside0.mk (show w.heap.size ≤ b306 from by rw [HZ306.out]; exact (below_size bS)); have HO306 := Aside0.mk (hz306); replace HO294 := Aside0.mk (R_oldB (by (with_reducible repeat (first | apply Kd.R_alloc | apply Kd.R_drewN | apply Kd.R_drew)); exact (Kd.R_mono (Kd.R_far (p := ⟨gb303, 1, none⟩) (Kd.R_far (p := ⟨gb303, 0, none⟩) (Kd.R_types HO294.out BK303.out (by decide)) (fun _ hk => hk.2) (.bool t299)) (fun _ hk => hk.2) (.slice Ao311 t300.length co311)) (fun _ h_ => h_.1))) hb HZ306.out); replace HO297 := Aside0.mk (R_oldB (by (with_reducible repeat (first | apply Kd.R_alloc | apply Kd.R_drewN | apply Kd.R_drew)); exact (Kd.R_mono (Kd.R_far (p := ⟨gb303, 1, none⟩) (Kd.R_far (p := ⟨gb303, 0, none⟩) (Kd.R_types HO297.out BK303.out (by decide)) (fun _ hk => hk.2) (.bool t299)) (fun _ hk => hk.2) (.slice Ao311 t300.length co311)) (fun _ h_ => h_.1))) hb HZ306.out); replace HO302 := Aside0.mk (R_oldB (by (with_reducible repeat (first | apply Kd.R_alloc | apply Kd.R_drewN | apply Kd.R_drew)); exact (Kd.R_mono (Kd.R_far (p := ⟨gb303, 1, none⟩) (Kd.R_far (p := ⟨gb303, 0, none⟩) (Kd.R_types HO302.out BK303.out (by decide)) (fun _ hk => hk.2) (.bool t299)) (fun _ hk => hk.2) (.slice Ao311 t300.length co311)) (fun _ h_ => h_.1))) hb HZ306.out); replace BK289 := kB (g := gb289) hb; replace BK303 := Aside0.mk (blk_below (g := gb303) (o := .cells #[.bool t299, .slice Ao311 t300.length co311] 28 (0, 0)) kS hb); replace HB := hB hb; (try clear hb); (try clear hb2); (try clear hk); (try clear hi); (try clear ho0); obtain ⟨Ao313, co313, eo313⟩ := Kd.R_slice HO306.out; subst eo313; obtain ⟨Ao314, co314, eo314⟩ := Kd.R_slice HO297.out; subst eo314) | ((with_reducible refine gC 19 ?_); refine cL (some 34) Try.func19 #[.slice Ao313 t304.length co313, .slice Ao314 t295.length co314] ?_; (with_reducible refine (laws_eqIntS.calls k _ _ t304 _ _ t295 _ _ ?side1 ?side2 ?side3 ?side4 A11.out).mono ?_); (case side1 => exact cS (Kd.R_reads' HO306.out).2.2); (case side2 => exact (Kd.R_reads' HO306.out).2.1); (case side3 => exact cS (Kd.R_reads' HO297.out).2.2); (case side4 => exact (Kd.R_reads' HO297.out).2.1); rintro e w' ⟨rfl, ⟨nd, rfl⟩⟩; refine ⟨_, rfl, ?_⟩))
  go_ret
  exact ⟨eS, bS⟩) : p := h
theorem laws_FnExactUnpackRow.lf1 {p : Prop} (h : p := by
  go_enter Try.func3, Try.ntmps3
  try go_wp2_with (first | ((with_reducible refine gD 1 ?_); refine bxE #[.bool a0_0, .slice A0_1 l0_1.length c0_1] 24 ?_; intro gb289 hg w121 BK289 hb; have GW289 := gE hg; have GE289 := gE hg; replace HB := hB hb; clear hb hg; have hz122 := cz2 BK289) | ((with_reducible refine gC 15 ?_); refine cL (some 16) Try.func15 #[.agg #[.bool a0_0, .slice A0_1 l0_1.length c0_1], .int .i64 1048576] ?_; (with_reducible refine (laws_szPacked.calls a0_0 _ _ l0_1 1048576 t290 _ ?side1 ?side2 A2.out).mono ?_); (case side1 => exact cS (Kd.C_below HR0_1.out HB.out)); (case side2 => exact HC0_1.out); rintro e w123 ⟨rfl, hb⟩; refine ⟨_, rfl, ?_⟩; replace BK289 := kB (g := gb289) hb; replace HB := hB hb; (try clear hb); (try clear hb2); (try clear hk); (try clear hi); have hz124 := cz2 BK289) | ((with_reducible refine gC 17 ?_); refine cL (some 21) Try.func17 #[.agg #[.bool a0_0, .slice A0_1 l0_1.length c0_1]] ?_; (with_reducible refine (laws_toPacked.calls k a0_0 _ _ l0_1 t291 t292 _ ?side1 ?side2 A7.out).mono ?_); (case side1 => exact cS (Kd.C_below HR0_1.out HB.out)); (case side2 => exact HC0_1.out); rintro e w125 ⟨v293, rfl, ho0, hb⟩; refine ⟨_, rfl, ?_⟩; obtain ⟨b294, HZ294, hz294⟩ := R_born ho0; have HL294 := Aside0.mk (show w.heap.size ≤ b294 from by rw [HZ294.out]; exact (below_size bS)); have HO294 := Aside0.mk (hz294); replace BK289 := kB (g := gb289) hb; replace HB := hB hb; (try clear hb); (try clear hb2); (try clear hk); (try clear hi); (try clear ho0); obtain ⟨Ao126, co126, eo126⟩ := Kd.R_slice HO294.out; subst eo126) | ((with_reducible refine gC 16 ?_); refine cL (some 22) Try.func16 #[.agg #[.bool t291, .slice Ao126 t292.length co126]] ?_; (with_reducible refine (spec_UnpackRow.calls k t291 _ _ t292 t295 t298 _ ?side1 ?side2 A8.out).mono ?_); (case side1 => exact cS (Kd.R_reads' HO294.out).2.2); (case side2 => exact (Kd.R_reads' HO294.out).2.1); rintro e w127 ⟨v296, rfl, ho0, hb⟩; refine ⟨_, rfl, ?_⟩; obtain ⟨b297, HZ297, hz297⟩ := R_born ho0; have HL297 := Aside0.mk (show w.heap.size ≤ b297 from by rw [HZ297.out]; exact (below_size bS)); have HO297 := Aside0.mk (hz297); replace HO294 := Aside0.mk (R_oldB (rS HO294) hb HZ297.out); replace BK289 := kB (g := gb289) hb; replace HB := hB hb; (try clear hb); (try clear hb2); (try clear hk); (try clear hi); (try clear ho0); have hz128 := cz2 BK289) | ((with_reducible refine gC 17 ?_); refine cL (some 26) Try.func17 #[.agg #[.bool a0_0, .slice A0_1 l0_1.length c0_1]] ?_; (with_reducible refine (laws_toPacked.calls k a0_0 _ _ l0_1 t299 t300 _ ?side1 ?side2 A9.out).mono ?_); (case side1 => exact cS (Kd.C_below HR0_1.out HB.out)); (case side2 => exact HC0_1.out); rintro e w129 ⟨v301, rfl, ho0, hb⟩; refine ⟨_, rfl, ?_⟩; obtain ⟨b302, HZ302, hz302⟩ := R_born ho0; have HL302 := Aside0.mk (show w.heap.size ≤ b302 from by rw [HZ302.out]; exact (below_size bS)); have HO302 := Aside0.mk (hz302); replace HO294 := Aside0.mk (R_oldB (rS HO294) hb HZ302.out); replace HO297 := Aside0.mk (R_oldB (rS HO297) hb HZ302.out); replace BK289 := kB (g := gb289) hb; replace HB := hB hb; (try clear hb); (try clear hb2); (try clear hk); (try clear hi); (try clear ho0)) | ((with_reducible refine gD 6 ?_); refine bxE #[.bool false, .slice none 0 0] 28 ?_; intro gb303 hg w130 BK303 hb; have GW303 := gE hg; have GE303 := gE hg; have NB289_303 := nL (g := gb289) hg; have NB303_289 := nG (g := gb289) hg; replace HO294 := Aside0.mk (Kd.R_below (rS HO294) hb); replace HO297 := Aside0.mk (Kd.R_below (rS HO297) hb); replace HO302 := Aside0.mk (Kd.R_below (rS HO302) hb); replace BK289 := kB (g := gb289) hb; replace HB := hB hb; clear hb hg; have hnb131 := NB303_289.out; have hnc131 := NB289_303.out; have hz132 := cz2 BK303; obtain ⟨Ao133, co133, eo133⟩ := Kd.R_slice HO302.out; subst eo133) | ((with_reducible refine gC 18 ?_); refine cL (some 29) Try.func18 #[.agg #[.bool t299, .slice Ao133 t300.length co133]] ?_; (with_reducible refine (impl_UnpackRow.calls k t299 _ _ t300 t304 t307 _ ?side1 ?side2 A10.out).mono ?_); (case side1 => exact (Kd.R_reads' (e := 3) (n := t300.length) (c := co133) (by (with_reducible repeat (first | apply Kd.R_alloc | apply Kd.R_drewN | apply Kd.R_drew)); exact (Kd.R_mono (Kd.R_far (p := ⟨gb303, 1, none⟩) (Kd.R_far (p := ⟨gb303, 0, none⟩) (Kd.R_types HO302.out BK303.out (by decide)) (fun _ hk => hk.2) (.bool t299)) (fun _ hk => hk.2) (.slice Ao133 t300.length co133)) (fun _ h_ => h_.1)))).2.2); (case side2 => exact (Kd.R_reads' HO302.out).2.1); rintro e w134 ⟨v305, rfl, ho0, hb⟩; refine ⟨_, rfl, ?_⟩; obtain ⟨b306, HZ306, hz306⟩ := R_born ho0; have HL306 := Aside0.mk (show w.heap.size ≤ b306 from by rw [HZ306.out]; exact (below_size bS)); have HO306 := Aside0.mk (hz306); replace HO294 := Aside0.mk (R_oldB (by (with_reducible repeat (first | apply Kd.R_alloc | apply Kd.R_drewN | apply Kd.R_drew)); exact (Kd.R_mono (Kd.R_far (p := ⟨gb303, 1, none⟩) (Kd.R_far (p := ⟨gb303, 0, none⟩) (Kd.R_types HO294.out BK303.out (by decide)) (fun _ hk => hk.2) (.bool t299)) (fun _ hk => hk.2) (.slice Ao133 t300.length co133)) (fun _ h_ => h_.1))) hb HZ306.out); replace HO297 := Aside0.mk (R_oldB (by (with_reducible repeat (first | apply Kd.R_alloc | apply Kd.R_drewN | apply Kd.R_drew)); exact (Kd.R_mono (Kd.R_far (p := ⟨gb303, 1, none⟩) (Kd.R_far (p := ⟨gb303, 0, none⟩) (Kd.R_types HO297.out BK303.out (by decide)) (fun _ hk => hk.2) (.bool t299)) (fun _ hk => hk.2) (.slice Ao133 t300.length co133)) (fun _ h_ => h_.1))) hb HZ306.out); replace HO302 := Aside0.mk (R_oldB (by (with_reducible repeat (first | apply Kd.R_alloc | apply Kd.R_drewN | apply Kd.R_drew)); exact (Kd.R_mono (Kd.R_far (p := ⟨gb303, 1, none⟩) (Kd.R_far (p := ⟨gb303, 0, none⟩) (Kd.R_types HO302.out BK303.out (by decide)) (fun _ hk => hk.2) (.bool t299)) (fun _ hk => hk.2) (.slice Ao133 t300.length co133)) (fun _ h_ => h_.1))) hb HZ306.out); replace BK289 := kB (g := gb289) hb; replace BK303 := Aside0.mk (blk_below (g := gb303) (o := .cells #[.bool t299, .slice Ao133 t300.length co133] 28 (0, 0)) kS hb); replace HB := hB hb; (try clear hb); (try clear hb2); (try clear hk); (try clear hi); (try clear ho0); obtain ⟨Ao135, co135, eo135⟩ := Kd.R_slice HO306.out; subst eo135; obtain ⟨Ao136, co136, eo136⟩ := Kd.R_slice HO297.out; subst eo136) | ((with_reducible refine gC 19 ?_); refine cL (some 34) Try.func19 #[.slice Ao135 t304.length co135, .slice Ao136 t295.length co136] ?_; (with_reducible refine (laws_eqIntS.calls k _ _ t304 _ _ t295 _ _ ?side1 ?side2 ?side3 ?side4 A11.out).mono ?_); (case side1 => exact cS (Kd.R_reads' HO306.out).2.2); (case side2 => exact (Kd.R_reads' HO306.out).2.1); (case side3 => exact cS (Kd.R_reads' HO297.out).2.2); (case side4 => exact (Kd.R_reads' HO297.out).2.1); rintro e w' ⟨rfl, ⟨nd, rfl⟩⟩; refine ⟨_, rfl, ?_⟩))
  (try (rw [drewN_self w134]; generalize hq_ : World.drewN w134 _ = w134; replace HO294 : Aside0 (Kd.R (Kd.int .i64) 3 w134 b294 (fun k_ => (((True ∧ k_ < b297) ∧ k_ < b302) ∧ k_ < b306)) (.slice Ao126 t292.length co126) t292) := ⟨by rw [← hq_]; exact (rS HO294)⟩; replace HO297 : Aside0 (Kd.R (Kd.int .i64) 3 w134 b297 (fun k_ => ((True ∧ k_ < b302) ∧ k_ < b306)) (.slice Ao136 t295.length co136) t295) := ⟨by rw [← hq_]; exact (rS HO297)⟩; replace HO302 : Aside0 (Kd.R (Kd.int .i64) 3 w134 b302 (fun k_ => (True ∧ k_ < b306)) (.slice Ao133 t300.length co133) t300) := ⟨by rw [← hq_]; exact (rS HO302)⟩; replace HO306 : Aside0 (Kd.R (Kd.int .i64) 3 w134 b306 (fun _ => True) (.slice Ao135 t304.length co135) t304) := ⟨by rw [← hq_]; exact (rS HO306)⟩; replace BK289 : Aside0 (w134.heap[gb289]? = some (.cells #[.bool a0_0, .slice A0_1 l0_1.length c0_1] 24 (0, 0))) := ⟨by rw [← hq_]; exact kS⟩; replace BK303 : Aside0 (w134.heap[gb303]? = some (.cells #[.bool t299, .slice Ao133 t300.length co133] 28 (0, 0))) := ⟨by rw [← hq_]; exact kS⟩; replace HB : Aside0 (Below w.heap.size w w134) := ⟨by rw [← hq_]; exact bS⟩; clear hq_))
  replace HO294 := Aside0.mk (Kd.R_drew HO294.out)
  replace HO297 := Aside0.mk (Kd.R_drew HO297.out)
  replace HO302 := Aside0.mk (Kd.R_drew HO302.out)
  replace HO306 := Aside0.mk (Kd.R_drew HO306.out)
  replace BK289 := Aside0.mk (blk_drew BK289.out)
  replace BK303 := Aside0.mk (blk_drew BK303.out)
  replace HB := Aside0.mk (below_drew1 HB.out)
  refine start_ (n := 5) (S := fun w' => w'.cell? ⟨gb303, 0, none⟩ = some (.bool t299) ∧ w'.cell? ⟨gb303, 1, none⟩ = some (.slice Ao133 t300.length co133) ∧ w'.cell? ⟨gb289, 0, none⟩ = some (.bool a0_0) ∧ w'.cell? ⟨gb289, 1, none⟩ = some (.slice A0_1 l0_1.length c0_1)) (ds := []) #[false, false, false, false, false] (by kernel_rfl) rfl rfl ⟨(blk_cell BK303.out 0).trans rfl, (blk_cell BK303.out 1).trans rfl, (blk_cell BK289.out 0).trans rfl, (blk_cell BK289.out 1).trans rfl⟩ (fun hHeld => ?_)
  generalize w134.drew = w137 at HO294 HO297 HO302 HO306 BK289 BK303 HB hHeld ⊢
  refine take_ (i := 0) (N := some 41) (v := ?_) (a' := ?_) #[true, false, false, false, false] rfl rfl (by kernel_rfl) (fun _ _ _ h => h) (Or.inl ⟨by rfl, ?_⟩) hHeld ?_ ?_
  rotate_left
  · rintro w' ⟨s0, s1, s2, s3⟩
    go_simp
    with_reducible rfl
  rotate_left
  · simp only [Act.put, List.setIfInBounds_toArray, List.set_cons_zero, List.set_cons_succ, i64_w, i32_w]
    rfl
  refine take_ (i := 1) (N := some 42) (v := ?_) (a' := ?_) #[true, true, false, false, false] rfl rfl (by kernel_rfl) (fun _ _ _ h => h) (Or.inl ⟨by rfl, ?_⟩) hHeld ?_ ?_
  rotate_left
  · rintro w' ⟨s0, s1, s2, s3⟩
    go_simp
    with_reducible rfl
  rotate_left
  · simp only [Act.put, List.setIfInBounds_toArray, List.set_cons_zero, List.set_cons_succ, i64_w, i32_w]
    rfl
  refine one_ (i := 2) (N := some 43) #[true, true, true, false, false] rfl rfl (by kernel_rfl) (by decide) (fun K hK => ?_)
  refine goes_ Try.func17 (by kernel_rfl) rfl #[.agg #[.bool a0_0, .slice A0_1 l0_1.length c0_1]] (by rfl) rfl rfl (by (try simp only [List.map_toArray, List.map_cons, List.map_nil]); first | done | rfl | (simp only [List.length_drop, List.length_take]; rfl)) ?_
  with_reducible refine (laws_toPacked.calls k a0_0 _ _ l0_1 t309 t310 _ ?side1 ?side2 A30.out).mono ?_
  (case side1 => exact cS (Kd.C_below HR0_1.out HB.out))
  (case side2 => exact HC0_1.out)
  rintro e w138 ⟨v311, rfl, ho0, hb⟩
  refine ⟨_, rfl, ?_⟩
  obtain ⟨b312, HZ312, hz312⟩ := R_born ho0
  have HL312 := Aside0.mk (show w.heap.size ≤ b312 from by rw [HZ312.out]; exact (below_size bS))
  have HO312 := Aside0.mk (hz312)
  replace HO294 := Aside0.mk (R_oldB (rS HO294) hb HZ312.out)
  replace HO297 := Aside0.mk (R_oldB (rS HO297) hb HZ312.out)
  replace HO302 := Aside0.mk (R_oldB (rS HO302) hb HZ312.out)
  replace HO306 := Aside0.mk (R_oldB (rS HO306) hb HZ312.out)
  replace BK289 := kB (g := gb289) hb
  replace BK303 := kB (g := gb303) hb
  replace HB := hB hb
  (try clear hb)
  (try clear hb2)
  (try clear hk)
  (try clear hi)
  (try clear ho0)
  obtain ⟨Ao139, co139, eo139⟩ := Kd.R_slice HO312.out
  (first | subst eo139 | (injection eo139 with f1_ f2_ f3_; have f4_ := f1_.symm; have f5_ := f3_.symm; clear f1_ f2_ f3_; subst f4_; subst f5_))
  refine hK.out _ _ ⟨(blk_cell BK303.out 0).trans rfl, (blk_cell BK303.out 1).trans rfl, (blk_cell BK289.out 0).trans rfl, (blk_cell BK289.out 1).trans rfl⟩ (fun hHeld => ?_)
  clear hK K
  refine norm_ (a' := ?_) ?_ ?_
  rotate_left
  · show Act.put _ (some 43) _ = _
    simp only [Act.put, List.setIfInBounds_toArray, List.set_cons_zero, List.set_cons_succ, i64_w, i32_w]
    rfl
  refine one_ (i := 3) (N := some 44) #[true, true, true, true, false] rfl rfl (by kernel_rfl) (by decide) (fun K hK => ?_)
  refine goes_ Try.func20 (by kernel_rfl) rfl #[.agg #[.bool t299, .slice Ao133 t300.length co133], .agg #[.bool t309, .slice Ao139 t310.length co139]] (by rfl) rfl rfl (by (try simp only [List.map_toArray, List.map_cons, List.map_nil]); first | done | rfl | (simp only [List.length_drop, List.length_take]; rfl)) ?_
  with_reducible refine (laws_eqPacked.calls k t299 _ _ t300 t309 _ _ t310 _ _ ?side1 ?side2 ?side3 ?side4 A31.out).mono ?_
  (case side1 => exact cS (Kd.R_reads' HO302.out).2.2)
  (case side2 => exact (Kd.R_reads' HO302.out).2.1)
  (case side3 => exact cS (Kd.R_reads' HO312.out).2.2)
  (case side4 => exact (Kd.R_reads' HO312.out).2.1)
  rintro e w140 ⟨rfl, hb⟩
  refine ⟨_, rfl, ?_⟩
  replace HO294 := Aside0.mk (Kd.R_below (rS HO294) hb)
  replace HO297 := Aside0.mk (Kd.R_below (rS HO297) hb)
  replace HO302 := Aside0.mk (Kd.R_below (rS HO302) hb)
  replace HO306 := Aside0.mk (Kd.R_below (rS HO306) hb)
  replace HO312 := Aside0.mk (Kd.R_below (rS HO312) hb)
  replace BK289 := kB (g := gb289) hb
  replace BK303 := kB (g := gb303) hb
  replace HB := hB hb
  (try clear hb)
  (try clear hb2)
  (try clear hk)
  (try clear hi)
  refine hK.out _ _ ⟨(blk_cell BK303.out 0).trans rfl, (blk_cell BK303.out 1).trans rfl, (blk_cell BK289.out 0).trans rfl, (blk_cell BK289.out 1).trans rfl⟩ (fun hHeld => ?_)
  clear hK K
  refine norm_ (a' := ?_) ?_ ?_
  rotate_left
  · show Act.put _ (some 44) _ = _
    simp only [Act.put, List.setIfInBounds_toArray, List.set_cons_zero, List.set_cons_succ, i64_w, i32_w]
    rfl
  refine pure_ (i := 4) (N := some 45) (v := ?_) (a' := ?_) #[true, true, true, true, true] rfl rfl (by kernel_rfl) (fun _ _ _ h => h) (Or.inl ⟨by rfl, ?_⟩) ?_ ?_
  rotate_left
  · intro w'
    go_simp
    with_reducible rfl
  rotate_left
  · simp only [Act.put, List.setIfInBounds_toArray, List.set_cons_zero, List.set_cons_succ, i64_w, i32_w]
    rfl
  refine done_ (by kernel_rfl) ?_
  have hz141 := cz2 BK303
  try go_wp2_with (first | ((with_reducible refine gC 21 ?_); refine cL (some 48) Try.func21 #[.agg #[.bool t299, .slice Ao133 t300.length co133], .int .i64 1] ?_; (with_reducible refine (laws_markPacked.calls k t299 (fun k_ => some k_ = (.slice Ao133 t300.length co133 : Value).ownBlock) (.slice Ao133 t300.length co133) t300 1 t314 t315 w _ ?side1 ?side2 A33.out).mono ?_); (case side1 => repeat (first | (with_reducible first | exact HB.out | apply below_alloc | apply pw_below_drewN | apply below_drew1 | refine below_set ?_ GE289.out | refine below_set ?_ GE303.out) | exact HB.out)); (case side2 => exact Kd.R_lower (Kd.R_tight rfl HO302.out) HL302.out); rintro e w142 ⟨rfl, hy0, hb, hkp⟩; refine ⟨_, rfl, ?_⟩; replace BK289 := Aside0.mk (blk_kept (g := gb289) kS hkp (fun hs_ => (fun e_ => (Kd.R_ne HO302.out BK289.out (by decide)) e_) hs_)); replace HO294 := Aside0.mk (Kd.R_mono (ok' := fun k_ => k_ < b297 ∧ k_ < b302 ∧ k_ < b306 ∧ k_ < b312) (Kd.R_keptB ((R_not (fun k_ => some k_ = (.slice Ao133 t300.length co133 : Value).ownBlock) HO294.out (fun k_ h_ e_ => Nat.not_le.2 (h_.1.1.1.2) (Kd.R_base HO302.out k_ e_.symm)))) hkp (fun k_ hk_ hs_ => (hk_.2) hs_)) (fun k_ hk_ => ⟨hk_.1.1.1.1.1.2, hk_.1.1.1.1.2, hk_.1.1.1.2, hk_.1.1.2⟩)); replace HO297 := Aside0.mk (Kd.R_mono (ok' := fun k_ => k_ < b302 ∧ k_ < b306 ∧ k_ < b312) (Kd.R_keptB ((R_not (fun k_ => some k_ = (.slice Ao133 t300.length co133 : Value).ownBlock) HO297.out (fun k_ h_ e_ => Nat.not_le.2 (h_.1.1.1.2) (Kd.R_base HO302.out k_ e_.symm)))) hkp (fun k_ hk_ hs_ => (hk_.2) hs_)) (fun k_ hk_ => ⟨hk_.1.1.1.1.2, hk_.1.1.1.2, hk_.1.1.2⟩)); replace BK303 := Aside0.mk (blk_kept (g := gb303) kS hkp (fun hs_ => (fun e_ => (Kd.R_ne HO302.out BK303.out (by decide)) e_) hs_)); replace HO306 := Aside0.mk (Kd.R_mono (ok' := fun k_ => k_ < b312) (Kd.R_keptB ((R_not (fun k_ => some k_ = (.slice Ao133 t300.length co133 : Value).ownBlock) HO306.out (fun k_ h_ e_ => Nat.not_lt.2 h_.2.1 ((HO302.out.1 k_ e_.symm).1.2)))) hkp (fun k_ hk_ hs_ => (hk_.2) hs_)) (fun k_ hk_ => hk_.1.1.2)); replace HO312 := Aside0.mk (Kd.R_mono (ok' := fun k_ => True) (Kd.R_keptB ((R_not (fun k_ => some k_ = (.slice Ao133 t300.length co133 : Value).ownBlock) HO312.out (fun k_ h_ e_ => Nat.not_lt.2 h_.2.1 ((HO302.out.1 k_ e_.symm).2)))) hkp (fun k_ hk_ hs_ => (hk_.2) hs_)) (fun k_ hk_ => trivial)); replace HO302 := Aside0.mk (Kd.R_reok rfl hy0 (fun k_ e_ => HO302.out.1 k_ e_)); replace HB := Aside0.mk (hb); (try clear hb); (try clear hkp); (try clear hy0)) | (go_at_call 19; (with_reducible refine (laws_eqIntS.calls k _ _ t304 _ _ t295 _ _ ?side1 ?side2 ?side3 ?side4 A57.out).mono ?_); (case side1 => exact cS (Kd.R_reads' HO306.out).2.2); (case side2 => exact (Kd.R_reads' HO306.out).2.1); (case side3 => exact cS (Kd.R_reads' HO297.out).2.2); (case side4 => exact (Kd.R_reads' HO297.out).2.1); rintro e w' ⟨rfl, ⟨nd, rfl⟩⟩) | ((with_reducible refine gC 22 ?_); refine cL (some 64) Try.func22 #[.slice Ao135 t304.length co135, .int .i64 1] ?_; (with_reducible refine (laws_markIntS.calls k (fun k_ => some k_ = (.slice Ao135 t304.length co135 : Value).ownBlock) (.slice Ao135 t304.length co135) t304 1 t317 t318 w _ ?side1 ?side2 A59.out).mono ?_); (case side1 => repeat (first | (with_reducible first | exact HB.out | apply below_alloc | apply pw_below_drewN | apply below_drew1 | refine below_set ?_ GE289.out | refine below_set ?_ GE303.out) | exact HB.out)); (case side2 => exact Kd.R_lower (Kd.R_tight rfl HO306.out) HL306.out); rintro e w143 ⟨rfl, hy0, hb, hkp⟩; refine ⟨_, rfl, ?_⟩; replace BK289 := Aside0.mk (blk_kept (g := gb289) kS hkp (fun hs_ => (fun e_ => (Kd.R_ne HO306.out BK289.out (by decide)) e_) hs_)); replace HO294 := Aside0.mk (Kd.R_mono (ok' := fun k_ => k_ < b297 ∧ k_ < b302 ∧ k_ < b306 ∧ k_ < b312) (Kd.R_keptB ((R_not (fun k_ => some k_ = (.slice Ao135 t304.length co135 : Value).ownBlock) HO294.out (fun k_ h_ e_ => Nat.not_le.2 (h_.1.2.2.1) (Kd.R_base HO306.out k_ e_.symm)))) hkp (fun k_ hk_ hs_ => (hk_.2) hs_)) (fun k_ hk_ => ⟨hk_.1.1.1, hk_.1.1.2.1, hk_.1.1.2.2.1, hk_.1.1.2.2.2⟩)); replace HO297 := Aside0.mk (Kd.R_mono (ok' := fun k_ => k_ < b302 ∧ k_ < b306 ∧ k_ < b312) (Kd.R_keptB ((R_not (fun k_ => some k_ = (.slice Ao135 t304.length co135 : Value).ownBlock) HO297.out (fun k_ h_ e_ => Nat.not_le.2 (h_.1.2.1) (Kd.R_base HO306.out k_ e_.symm)))) hkp (fun k_ hk_ hs_ => (hk_.2) hs_)) (fun k_ hk_ => ⟨hk_.1.1.1, hk_.1.1.2.1, hk_.1.1.2.2⟩)); replace BK303 := Aside0.mk (blk_kept (g := gb303) kS hkp (fun hs_ => (fun e_ => (Kd.R_ne HO306.out BK303.out (by decide)) e_) hs_)); replace HO312 := Aside0.mk (Kd.R_mono (ok' := fun k_ => True) (Kd.R_keptB ((R_not (fun k_ => some k_ = (.slice Ao135 t304.length co135 : Value).ownBlock) HO312.out (fun k_ h_ e_ => Nat.not_lt.2 h_.2.1 ((HO306.out.1 k_ e_.symm))))) hkp (fun k_ hk_ hs_ => (hk_.2) hs_)) (fun k_ hk_ => trivial)); replace HO306 := Aside0.mk (Kd.R_reok rfl hy0 (fun k_ e_ => HO306.out.1 k_ e_)); replace HB := Aside0.mk (hb); clear HO302; (try clear hb); (try clear hkp); (try clear hy0)) | ((with_reducible refine gC 23 ?_); refine goesL_ (some 67) rfl rfl Try.func23 (by kernel_rfl) rfl #[.slice Ao135 t318.length co135, .int .i64 1] rfl (by (try simp only [List.map_toArray, List.map_cons, List.map_nil]); first | done | (rw [show t318.length = t304.length from (Kd.R_reads' HO306.out).1.symm] <;> rfl) | rfl | (simp only [List.length_drop, List.length_take]; rfl)) ?_; (with_reducible refine (laws_heldIntS.calls k _ _ t318 1 t319 _ ?side1 ?side2 A60.out).mono ?_); (case side1 => exact cS (Kd.R_reads' HO306.out).2.2); (case side2 => rw [show t318.length = t304.length from (Kd.R_reads' HO306.out).1.symm]; exact (Kd.R_reads' HO306.out).2.1); rintro e w' ⟨rfl, ⟨nd, rfl⟩⟩; refine ⟨_, rfl, ?_⟩; have hz144 := cz2 BK289) | ((with_reducible refine gC 17 ?_); refine cL (some 75) Try.func17 #[.agg #[.bool a0_0, .slice A0_1 l0_1.length c0_1]] ?_; (with_reducible refine (laws_toPacked.calls k a0_0 _ _ l0_1 t320 t321 _ ?side1 ?side2 A86.out).mono ?_); (case side1 => exact cS (Kd.C_below HR0_1.out bS)); (case side2 => exact HC0_1.out); rintro e w145 ⟨v322, rfl, ho0, hb⟩; refine ⟨_, rfl, ?_⟩; obtain ⟨b323, HZ323, hz323⟩ := R_born ho0; have HL323 := Aside0.mk (show w.heap.size ≤ b323 from by rw [HZ323.out]; exact (below_size bS)); have HO323 := Aside0.mk (hz323); replace HO294 := Aside0.mk (R_oldB (rS HO294) hb HZ323.out); replace HO297 := Aside0.mk (R_oldB (rS HO297) hb HZ323.out); replace HO306 := Aside0.mk (R_oldB (rS HO306) hb HZ323.out); replace HO312 := Aside0.mk (R_oldB (rS HO312) hb HZ323.out); replace BK289 := kB (g := gb289) hb; replace BK303 := kB (g := gb303) hb; replace HB := hB hb; (try clear hb); (try clear hb2); (try clear hk); (try clear hi); (try clear ho0); obtain ⟨Ao146, co146, eo146⟩ := Kd.R_slice HO323.out; subst eo146) | ((with_reducible refine gC 18 ?_); refine cL (some 76) Try.func18 #[.agg #[.bool t320, .slice Ao146 t321.length co146]] ?_; (with_reducible refine (impl_UnpackRow.calls k t320 _ _ t321 t324 t327 _ ?side1 ?side2 A87.out).mono ?_); (case side1 => exact cS (Kd.R_reads' HO323.out).2.2); (case side2 => exact (Kd.R_reads' HO323.out).2.1); rintro e w147 ⟨v325, rfl, ho0, hb⟩; refine ⟨_, rfl, ?_⟩; obtain ⟨b326, HZ326, hz326⟩ := R_born ho0; have HL326 := Aside0.mk (show w.heap.size ≤ b326 from by rw [HZ326.out]; exact (below_size bS)); have HO326 := Aside0.mk (hz326); replace HO294 := Aside0.mk (R_oldB (rS HO294) hb HZ326.out); replace HO297 := Aside0.mk (R_oldB (rS HO297) hb HZ326.out); replace HO306 := Aside0.mk (R_oldB (rS HO306) hb HZ326.out); replace HO312 := Aside0.mk (R_oldB (rS HO312) hb HZ326.out); replace HO323 := Aside0.mk (R_oldB (rS HO323) hb HZ326.out); replace BK289 := kB (g := gb289) hb; replace BK303 := kB (g := gb303) hb; replace HB := hB hb; (try clear hb); (try clear hb2); (try clear hk); (try clear hi); (try clear ho0); obtain ⟨Ao148, co148, eo148⟩ := Kd.R_slice HO326.out; subst eo148) | ((with_reducible refine gC 19 ?_); refine cL (some 81) Try.func19 #[.slice Ao148 t324.length co148, .slice Ao136 t295.length co136] ?_; (with_reducible refine (laws_eqIntS.calls k _ _ t324 _ _ t295 _ _ ?side1 ?side2 ?side3 ?side4 A88.out).mono ?_); (case side1 => exact cS (Kd.R_reads' HO326.out).2.2); (case side2 => exact (Kd.R_reads' HO326.out).2.1); (case side3 => exact cS (Kd.R_reads' HO297.out).2.2); (case side4 => exact (Kd.R_reads' HO297.out).2.1); rintro e w' ⟨rfl, ⟨nd, rfl⟩⟩; refine ⟨_, rfl, ?_⟩) | ((with_reducible refine gC 23 ?_); refine goesL_ (some 90) rfl rfl Try.func23 (by kernel_rfl) rfl #[.slice Ao135 t318.length co135, .int .i64 1] rfl (by (try simp only [List.map_toArray, List.map_cons, List.map_nil]); first | done | (rw [show t318.length = t304.length from (Kd.R_reads' HO306.out).1.symm] <;> rfl) | rfl | (simp only [List.length_drop, List.length_take]; rfl)) ?_; (with_reducible refine (laws_heldIntS.calls k _ _ t318 1 t329 _ ?side1 ?side2 A119.out).mono ?_); (case side1 => exact cS (Kd.R_reads' HO306.out).2.2); (case side2 => rw [show t318.length = t304.length from (Kd.R_reads' HO306.out).1.symm]; exact (Kd.R_reads' HO306.out).2.1); rintro e w' ⟨rfl, ⟨nd, rfl⟩⟩; refine ⟨_, rfl, ?_⟩))
  go_ret
  exact ⟨eS, bS⟩) : p := h
theorem laws_FnExactUnpackRow.calls (k : Nat) (a0_0 : Bool) (A0_1 : Option Addr) (c0_1 : Nat) (l0_1 : List Int) (r : Bool) (w : World) (hr0_1 : Kd.C (Kd.int .i64) w A0_1 l0_1.length l0_1) (hc0_1 : l0_1.length ≤ c0_1) (h : laws_FnExactUnpackRow.f k a0_0 l0_1 = some r) :
    Calls Try.prog 3 #[.agg #[.bool a0_0, .slice A0_1 l0_1.length c0_1]] w fun e w' => e = .returned (.bool r) ∧ Below w.heap.size w w' := by
  have hu24 := Try.underlying24
  have hu28 := Try.underlying28
  have HR0_1 := Aside0.mk hr0_1
  have HC0_1 := Aside0.mk hc0_1
  clear hr0_1 hc0_1
  have HB := Aside0.mk (Below.refl w.heap.size w)
  have H : ((laws_szPacked.f a0_0 l0_1 1048576).bind fun t290 => (if t290 < 0 then (some true) else ((laws_toPacked.f k a0_0 l0_1).bind fun bt291 => ((spec_UnpackRow.f k bt291.1 bt291.2).bind fun bt295 => ((laws_toPacked.f k a0_0 l0_1).bind fun bt299 => ((impl_UnpackRow.f k bt299.1 bt299.2).bind fun bt304 => ((laws_eqIntS.f k bt304.1 bt295.1).bind fun t308 => (if t308 = true then (if (bt304.2 != bt295.2) = true then (some false) else ((laws_toPacked.f k a0_0 l0_1).bind fun bt309 => ((laws_eqPacked.f k bt299.1 bt299.2 bt309.1 bt309.2).bind fun t313 => (if t313 = true then ((laws_markPacked.f k bt299.1 bt299.2 1).bind fun bt314 => (if bt314.1 < 0 then (some false) else ((laws_eqIntS.f k bt304.1 bt295.1).bind fun t316 => (if t316 = true then ((laws_markIntS.f k bt304.1 1).bind fun bt317 => ((laws_heldIntS.f k bt317.2 1).bind fun t319 => (if t319 < 0 then (some false) else (if t319 = bt317.1 then ((laws_toPacked.f k a0_0 l0_1).bind fun bt320 => ((impl_UnpackRow.f k bt320.1 bt320.2).bind fun bt324 => ((laws_eqIntS.f k bt324.1 bt295.1).bind fun t328 => (if t328 = true then (if (bt324.2 != bt295.2) = true then (some false) else ((laws_heldIntS.f k bt317.2 1).bind fun t329 => (if t329 < 0 then (some false) else (if t329 = bt317.1 then (some true) else (some false))))) else (some false))))) else (some false))))) else (some false))))) else (some false))))) else (some false))))))))) = some r := h
  clear h
  replace H := bN H
  obtain ⟨t290, A2, H⟩ := H
  by_cases c3 : t290 < 0
  · rw [if_pos c3] at H
    have c3b0 : decide (t290 < 0) = true := decide_eq_true c3
    clear c3
    obtain rfl := Option.some.inj H
    exact laws_FnExactUnpackRow.lf0
  · rw [if_neg c3] at H
    have c3b0 : decide (t290 < 0) = false := decide_eq_false c3
    clear c3
    replace H := bN H
    obtain ⟨⟨t291, t292⟩, A7, H⟩ := H
    replace H := bN H
    obtain ⟨⟨t295, t298⟩, A8, H⟩ := H
    replace H := bN H
    obtain ⟨⟨t299, t300⟩, A9, H⟩ := H
    replace H := bN H
    obtain ⟨⟨t304, t307⟩, A10, H⟩ := H
    replace H := bN H
    obtain ⟨t308, A11, H⟩ := H
    by_cases c12 : t308 = true
    · subst c12
      rw [if_pos rfl] at H
      by_cases c13 : (t307 != t298) = true
      · rw [if_pos c13] at H
        have c13b0 : (t307 != t298) = true := c13
        (try (have c13b1 : decide (t307 = t298) = false := by simpa using c13))
        (try (have c13b2 : (t307 == t298) = false := by simpa using c13))
        (try (have c13b3 : ¬ (t307 = t298) := by simpa using c13))
        clear c13
        obtain rfl := Option.some.inj H
        exact laws_FnExactUnpackRow.lf0
      · rw [if_neg c13] at H
        have c13b0 : (t307 != t298) = false := by simpa using c13
        (try (have c13b1 : decide (t307 = t298) = true := by simpa using c13))
        (try (have c13b2 : (t307 == t298) = true := by simpa using c13))
        clear c13
        replace H := bN H
        obtain ⟨⟨t309, t310⟩, A30, H⟩ := H
        replace H := bN H
        obtain ⟨t313, A31, H⟩ := H
        by_cases c32 : t313 = true
        · subst c32
          rw [if_pos rfl] at H
          replace H := bN H
          obtain ⟨⟨t314, t315⟩, A33, H⟩ := H
          by_cases c34 : t314 < 0
          · rw [if_pos c34] at H
            have c34b0 : decide (t314 < 0) = true := decide_eq_true c34
            clear c34
            obtain rfl := Option.some.inj H
            exact laws_FnExactUnpackRow.lf1
          · rw [if_neg c34] at H
            have c34b0 : decide (t314 < 0) = false := decide_eq_false c34
            clear c34
            replace H := bN H
            obtain ⟨t316, A57, H⟩ := H
            by_cases c58 : t316 = true
            · subst c58
              rw [if_pos rfl] at H
              replace H := bN H
              obtain ⟨⟨t317, t318⟩, A59, H⟩ := H
              replace H := bN H
              obtain ⟨t319, A60, H⟩ := H
              by_cases c61 : t319 < 0
              · rw [if_pos c61] at H
                have c61b0 : decide (t319 < 0) = true := decide_eq_true c61
                clear c61
                obtain rfl := Option.some.inj H
                exact laws_FnExactUnpackRow.lf1
              · rw [if_neg c61] at H
                have c61b0 : decide (t319 < 0) = false := decide_eq_false c61
                clear c61
                by_cases c85 : t319 = t317
                · rw [if_pos c85] at H
                  have c85b0 : (t319 == t317) = true := beq_iff_eq.mpr c85
                  have c85b1 : (t319 != t317) = false := bne_eq_false_iff_eq.mpr c85
                  clear c85
                  replace H := bN H
                  obtain ⟨⟨t320, t321⟩, A86, H⟩ := H
                  replace H := bN H
                  obtain ⟨⟨t324, t327⟩, A87, H⟩ := H
                  replace H := bN H
                  obtain ⟨t328, A88, H⟩ := H
                  by_cases c89 : t328 = true
                  · subst c89
                    rw [if_pos rfl] at H
                    by_cases c90 : (t327 != t298) = true
                    · rw [if_pos c90] at H
                      have c90b0 : (t327 != t298) = true := c90
                      (try (have c90b1 : decide (t327 = t298) = false := by simpa using c90))
                      (try (have c90b2 : (t327 == t298) = false := by simpa using c90))
                      (try (have c90b3 : ¬ (t327 = t298) := by simpa using c90))
                      clear c90
                      obtain rfl := Option.some.inj H
                      exact laws_FnExactUnpackRow.lf1
                    · rw [if_neg c90] at H
                      have c90b0 : (t327 != t298) = false := by simpa using c90
                      (try (have c90b1 : decide (t327 = t298) = true := by simpa using c90))
                      (try (have c90b2 : (t327 == t298) = true := by simpa using c90))
                      clear c90
                      replace H := bN H
                      obtain ⟨t329, A119, H⟩ := H
                      by_cases c120 : t329 < 0
                      · rw [if_pos c120] at H
                        have c120b0 : decide (t329 < 0) = true := decide_eq_true c120
                        clear c120
                        obtain rfl := Option.some.inj H
                        exact laws_FnExactUnpackRow.lf1
                      · rw [if_neg c120] at H
                        have c120b0 : decide (t329 < 0) = false := decide_eq_false c120
                        clear c120
                        by_cases c149 : t329 = t317
                        · rw [if_pos c149] at H
                          have c149b0 : (t329 == t317) = true := beq_iff_eq.mpr c149
                          have c149b1 : (t329 != t317) = false := bne_eq_false_iff_eq.mpr c149
                          clear c149
                          obtain rfl := Option.some.inj H
                          exact laws_FnExactUnpackRow.lf1
                        · rw [if_neg c149] at H
                          have c149b0 : (t329 == t317) = false := beq_eq_false_iff_ne.mpr c149
                          have c149b1 : (t329 != t317) = true := bne_iff_ne.mpr c149
                          obtain rfl := Option.some.inj H
                          exact laws_FnExactUnpackRow.lf1
                  · obtain rfl := Bool.eq_false_iff.mpr c89
                    rw [if_neg nF] at H
                    obtain rfl := Option.some.inj H
                    exact laws_FnExactUnpackRow.lf1
                · rw [if_neg c85] at H
                  have c85b0 : (t319 == t317) = false := beq_eq_false_iff_ne.mpr c85
                  have c85b1 : (t319 != t317) = true := bne_iff_ne.mpr c85
                  obtain rfl := Option.some.inj H
                  exact laws_FnExactUnpackRow.lf1
            · obtain rfl := Bool.eq_false_iff.mpr c58
              rw [if_neg nF] at H
              obtain rfl := Option.some.inj H
              exact laws_FnExactUnpackRow.lf1
        · obtain rfl := Bool.eq_false_iff.mpr c32
          rw [if_neg nF] at H
          obtain rfl := Option.some.inj H
          go_enter Try.func3, Try.ntmps3
          try go_wp2_with (first | ((with_reducible refine gD 1 ?_); refine bxE #[.bool a0_0, .slice A0_1 l0_1.length c0_1] 24 ?_; intro gb289 hg w279 BK289 hb; have GW289 := gE hg; have GE289 := gE hg; replace HB := hB hb; clear hb hg; have hz280 := cz2 BK289) | ((with_reducible refine gC 15 ?_); refine cL (some 16) Try.func15 #[.agg #[.bool a0_0, .slice A0_1 l0_1.length c0_1], .int .i64 1048576] ?_; (with_reducible refine (laws_szPacked.calls a0_0 _ _ l0_1 1048576 t290 _ ?side1 ?side2 A2.out).mono ?_); (case side1 => exact cS (Kd.C_below HR0_1.out HB.out)); (case side2 => exact HC0_1.out); rintro e w281 ⟨rfl, hb⟩; refine ⟨_, rfl, ?_⟩; replace BK289 := kB (g := gb289) hb; replace HB := hB hb; (try clear hb); (try clear hb2); (try clear hk); (try clear hi); have hz282 := cz2 BK289) | ((with_reducible refine gC 17 ?_); refine cL (some 21) Try.func17 #[.agg #[.bool a0_0, .slice A0_1 l0_1.length c0_1]] ?_; (with_reducible refine (laws_toPacked.calls k a0_0 _ _ l0_1 t291 t292 _ ?side1 ?side2 A7.out).mono ?_); (case side1 => exact cS (Kd.C_below HR0_1.out HB.out)); (case side2 => exact HC0_1.out); rintro e w283 ⟨v293, rfl, ho0, hb⟩; refine ⟨_, rfl, ?_⟩; obtain ⟨b294, HZ294, hz294⟩ := R_born ho0; have HL294 := Aside0.mk (show w.heap.size ≤ b294 from by rw [HZ294.out]; exact (below_size bS)); have HO294 := Aside0.mk (hz294); replace BK289 := kB (g := gb289) hb; replace HB := hB hb; (try clear hb); (try clear hb2); (try clear hk); (try clear hi); (try clear ho0); obtain ⟨Ao284, co284, eo284⟩ := Kd.R_slice HO294.out; subst eo284) | ((with_reducible refine gC 16 ?_); refine cL (some 22) Try.func16 #[.agg #[.bool t291, .slice Ao284 t292.length co284]] ?_; (with_reducible refine (spec_UnpackRow.calls k t291 _ _ t292 t295 t298 _ ?side1 ?side2 A8.out).mono ?_); (case side1 => exact cS (Kd.R_reads' HO294.out).2.2); (case side2 => exact (Kd.R_reads' HO294.out).2.1); rintro e w285 ⟨v296, rfl, ho0, hb⟩; refine ⟨_, rfl, ?_⟩; obtain ⟨b297, HZ297, hz297⟩ := R_born ho0; have HL297 := Aside0.mk (show w.heap.size ≤ b297 from by rw [HZ297.out]; exact (below_size bS)); have HO297 := Aside0.mk (hz297); replace HO294 := Aside0.mk (R_oldB (rS HO294) hb HZ297.out); replace BK289 := kB (g := gb289) hb; replace HB := hB hb; (try clear hb); (try clear hb2); (try clear hk); (try clear hi); (try clear ho0); have hz286 := cz2 BK289) | ((with_reducible refine gC 17 ?_); refine cL (some 26) Try.func17 #[.agg #[.bool a0_0, .slice A0_1 l0_1.length c0_1]] ?_; (with_reducible refine (laws_toPacked.calls k a0_0 _ _ l0_1 t299 t300 _ ?side1 ?side2 A9.out).mono ?_); (case side1 => exact cS (Kd.C_below HR0_1.out HB.out)); (case side2 => exact HC0_1.out); rintro e w287 ⟨v301, rfl, ho0, hb⟩; refine ⟨_, rfl, ?_⟩; obtain ⟨b302, HZ302, hz302⟩ := R_born ho0; have HL302 := Aside0.mk (show w.heap.size ≤ b302 from by rw [HZ302.out]; exact (below_size bS)); have HO302 := Aside0.mk (hz302); replace HO294 := Aside0.mk (R_oldB (rS HO294) hb HZ302.out); replace HO297 := Aside0.mk (R_oldB (rS HO297) hb HZ302.out); replace BK289 := kB (g := gb289) hb; replace HB := hB hb; (try clear hb); (try clear hb2); (try clear hk); (try clear hi); (try clear ho0)) | ((with_reducible refine gD 6 ?_); refine bxE #[.bool false, .slice none 0 0] 28 ?_; intro gb303 hg w288 BK303 hb; have GW303 := gE hg; have GE303 := gE hg; have NB289_303 := nL (g := gb289) hg; have NB303_289 := nG (g := gb289) hg; replace HO294 := Aside0.mk (Kd.R_below (rS HO294) hb); replace HO297 := Aside0.mk (Kd.R_below (rS HO297) hb); replace HO302 := Aside0.mk (Kd.R_below (rS HO302) hb); replace BK289 := kB (g := gb289) hb; replace HB := hB hb; clear hb hg; have hnb289 := NB303_289.out; have hnc289 := NB289_303.out; have hz290 := cz2 BK303; obtain ⟨Ao291, co291, eo291⟩ := Kd.R_slice HO302.out; subst eo291) | ((with_reducible refine gC 18 ?_); refine cL (some 29) Try.func18 #[.agg #[.bool t299, .slice Ao291 t300.length co291]] ?_; (with_reducible refine (impl_UnpackRow.calls k t299 _ _ t300 t304 t307 _ ?side1 ?side2 A10.out).mono ?_); (case side1 => exact (Kd.R_reads' (e := 3) (n := t300.length) (c := co291) (by (with_reducible repeat (first | apply Kd.R_alloc | apply Kd.R_drewN | apply Kd.R_drew)); exact (Kd.R_mono (Kd.R_far (p := ⟨gb303, 1, none⟩) (Kd.R_far (p := ⟨gb303, 0, none⟩) (Kd.R_types HO302.out BK303.out (by decide)) (fun _ hk => hk.2) (.bool t299)) (fun _ hk => hk.2) (.slice Ao291 t300.length co291)) (fun _ h_ => h_.1)))).2.2); (case side2 => exact (Kd.R_reads' HO302.out).2.1); rintro e w292 ⟨v305, rfl, ho0, hb⟩; refine ⟨_, rfl, ?_⟩; obtain ⟨b306, HZ306, hz306⟩ := R_born ho0; have HL306 := Aside0.mk (show w.heap.size ≤ b306 from by rw [HZ306.out]; exact (below_size bS)); have HO306 := Aside0.mk (hz306); replace HO294 := Aside0.mk (R_oldB (by (with_reducible repeat (first | apply Kd.R_alloc | apply Kd.R_drewN | apply Kd.R_drew)); exact (Kd.R_mono (Kd.R_far (p := ⟨gb303, 1, none⟩) (Kd.R_far (p := ⟨gb303, 0, none⟩) (Kd.R_types HO294.out BK303.out (by decide)) (fun _ hk => hk.2) (.bool t299)) (fun _ hk => hk.2) (.slice Ao291 t300.length co291)) (fun _ h_ => h_.1))) hb HZ306.out); replace HO297 := Aside0.mk (R_oldB (by (with_reducible repeat (first | apply Kd.R_alloc | apply Kd.R_drewN | apply Kd.R_drew)); exact (Kd.R_mono (Kd.R_far (p := ⟨gb303, 1, none⟩) (Kd.R_far (p := ⟨gb303, 0, none⟩) (Kd.R_types HO297.out BK303.out (by decide)) (fun _ hk => hk.2) (.bool t299)) (fun _ hk => hk.2) (.slice Ao291 t300.length co291)) (fun _ h_ => h_.1))) hb HZ306.out); replace HO302 := Aside0.mk (R_oldB (by (with_reducible repeat (first | apply Kd.R_alloc | apply Kd.R_drewN | apply Kd.R_drew)); exact (Kd.R_mono (Kd.R_far (p := ⟨gb303, 1, none⟩) (Kd.R_far (p := ⟨gb303, 0, none⟩) (Kd.R_types HO302.out BK303.out (by decide)) (fun _ hk => hk.2) (.bool t299)) (fun _ hk => hk.2) (.slice Ao291 t300.length co291)) (fun _ h_ => h_.1))) hb HZ306.out); replace BK289 := kB (g := gb289) hb; replace BK303 := Aside0.mk (blk_below (g := gb303) (o := .cells #[.bool t299, .slice Ao291 t300.length co291] 28 (0, 0)) kS hb); replace HB := hB hb; (try clear hb); (try clear hb2); (try clear hk); (try clear hi); (try clear ho0); obtain ⟨Ao293, co293, eo293⟩ := Kd.R_slice HO306.out; subst eo293; obtain ⟨Ao294, co294, eo294⟩ := Kd.R_slice HO297.out; subst eo294) | ((with_reducible refine gC 19 ?_); refine cL (some 34) Try.func19 #[.slice Ao293 t304.length co293, .slice Ao294 t295.length co294] ?_; (with_reducible refine (laws_eqIntS.calls k _ _ t304 _ _ t295 _ _ ?side1 ?side2 ?side3 ?side4 A11.out).mono ?_); (case side1 => exact cS (Kd.R_reads' HO306.out).2.2); (case side2 => exact (Kd.R_reads' HO306.out).2.1); (case side3 => exact cS (Kd.R_reads' HO297.out).2.2); (case side4 => exact (Kd.R_reads' HO297.out).2.1); rintro e w' ⟨rfl, ⟨nd, rfl⟩⟩; refine ⟨_, rfl, ?_⟩))
          (try (rw [drewN_self w292]; generalize hq_ : World.drewN w292 _ = w292; replace HO294 : Aside0 (Kd.R (Kd.int .i64) 3 w292 b294 (fun k_ => (((True ∧ k_ < b297) ∧ k_ < b302) ∧ k_ < b306)) (.slice Ao284 t292.length co284) t292) := ⟨by rw [← hq_]; exact (rS HO294)⟩; replace HO297 : Aside0 (Kd.R (Kd.int .i64) 3 w292 b297 (fun k_ => ((True ∧ k_ < b302) ∧ k_ < b306)) (.slice Ao294 t295.length co294) t295) := ⟨by rw [← hq_]; exact (rS HO297)⟩; replace HO302 : Aside0 (Kd.R (Kd.int .i64) 3 w292 b302 (fun k_ => (True ∧ k_ < b306)) (.slice Ao291 t300.length co291) t300) := ⟨by rw [← hq_]; exact (rS HO302)⟩; replace HO306 : Aside0 (Kd.R (Kd.int .i64) 3 w292 b306 (fun _ => True) (.slice Ao293 t304.length co293) t304) := ⟨by rw [← hq_]; exact (rS HO306)⟩; replace BK289 : Aside0 (w292.heap[gb289]? = some (.cells #[.bool a0_0, .slice A0_1 l0_1.length c0_1] 24 (0, 0))) := ⟨by rw [← hq_]; exact kS⟩; replace BK303 : Aside0 (w292.heap[gb303]? = some (.cells #[.bool t299, .slice Ao291 t300.length co291] 28 (0, 0))) := ⟨by rw [← hq_]; exact kS⟩; replace HB : Aside0 (Below w.heap.size w w292) := ⟨by rw [← hq_]; exact bS⟩; clear hq_))
          replace HO294 := Aside0.mk (Kd.R_drew HO294.out)
          replace HO297 := Aside0.mk (Kd.R_drew HO297.out)
          replace HO302 := Aside0.mk (Kd.R_drew HO302.out)
          replace HO306 := Aside0.mk (Kd.R_drew HO306.out)
          replace BK289 := Aside0.mk (blk_drew BK289.out)
          replace BK303 := Aside0.mk (blk_drew BK303.out)
          replace HB := Aside0.mk (below_drew1 HB.out)
          refine start_ (n := 5) (S := fun w' => w'.cell? ⟨gb303, 0, none⟩ = some (.bool t299) ∧ w'.cell? ⟨gb303, 1, none⟩ = some (.slice Ao291 t300.length co291) ∧ w'.cell? ⟨gb289, 0, none⟩ = some (.bool a0_0) ∧ w'.cell? ⟨gb289, 1, none⟩ = some (.slice A0_1 l0_1.length c0_1)) (ds := []) #[false, false, false, false, false] (by kernel_rfl) rfl rfl ⟨(blk_cell BK303.out 0).trans rfl, (blk_cell BK303.out 1).trans rfl, (blk_cell BK289.out 0).trans rfl, (blk_cell BK289.out 1).trans rfl⟩ (fun hHeld => ?_)
          generalize w292.drew = w295 at HO294 HO297 HO302 HO306 BK289 BK303 HB hHeld ⊢
          refine take_ (i := 0) (N := some 41) (v := ?_) (a' := ?_) #[true, false, false, false, false] rfl rfl (by kernel_rfl) (fun _ _ _ h => h) (Or.inl ⟨by rfl, ?_⟩) hHeld ?_ ?_
          rotate_left
          · rintro w' ⟨s0, s1, s2, s3⟩
            go_simp
            with_reducible rfl
          rotate_left
          · simp only [Act.put, List.setIfInBounds_toArray, List.set_cons_zero, List.set_cons_succ, i64_w, i32_w]
            rfl
          refine take_ (i := 1) (N := some 42) (v := ?_) (a' := ?_) #[true, true, false, false, false] rfl rfl (by kernel_rfl) (fun _ _ _ h => h) (Or.inl ⟨by rfl, ?_⟩) hHeld ?_ ?_
          rotate_left
          · rintro w' ⟨s0, s1, s2, s3⟩
            go_simp
            with_reducible rfl
          rotate_left
          · simp only [Act.put, List.setIfInBounds_toArray, List.set_cons_zero, List.set_cons_succ, i64_w, i32_w]
            rfl
          refine one_ (i := 2) (N := some 43) #[true, true, true, false, false] rfl rfl (by kernel_rfl) (by decide) (fun K hK => ?_)
          refine goes_ Try.func17 (by kernel_rfl) rfl #[.agg #[.bool a0_0, .slice A0_1 l0_1.length c0_1]] (by rfl) rfl rfl (by (try simp only [List.map_toArray, List.map_cons, List.map_nil]); first | done | rfl | (simp only [List.length_drop, List.length_take]; rfl)) ?_
          with_reducible refine (laws_toPacked.calls k a0_0 _ _ l0_1 t309 t310 _ ?side1 ?side2 A30.out).mono ?_
          (case side1 => exact cS (Kd.C_below HR0_1.out HB.out))
          (case side2 => exact HC0_1.out)
          rintro e w296 ⟨v311, rfl, ho0, hb⟩
          refine ⟨_, rfl, ?_⟩
          obtain ⟨b312, HZ312, hz312⟩ := R_born ho0
          have HL312 := Aside0.mk (show w.heap.size ≤ b312 from by rw [HZ312.out]; exact (below_size bS))
          have HO312 := Aside0.mk (hz312)
          replace HO294 := Aside0.mk (R_oldB (rS HO294) hb HZ312.out)
          replace HO297 := Aside0.mk (R_oldB (rS HO297) hb HZ312.out)
          replace HO302 := Aside0.mk (R_oldB (rS HO302) hb HZ312.out)
          replace HO306 := Aside0.mk (R_oldB (rS HO306) hb HZ312.out)
          replace BK289 := kB (g := gb289) hb
          replace BK303 := kB (g := gb303) hb
          replace HB := hB hb
          (try clear hb)
          (try clear hb2)
          (try clear hk)
          (try clear hi)
          (try clear ho0)
          obtain ⟨Ao297, co297, eo297⟩ := Kd.R_slice HO312.out
          (first | subst eo297 | (injection eo297 with f1_ f2_ f3_; have f4_ := f1_.symm; have f5_ := f3_.symm; clear f1_ f2_ f3_; subst f4_; subst f5_))
          refine hK.out _ _ ⟨(blk_cell BK303.out 0).trans rfl, (blk_cell BK303.out 1).trans rfl, (blk_cell BK289.out 0).trans rfl, (blk_cell BK289.out 1).trans rfl⟩ (fun hHeld => ?_)
          clear hK K
          refine norm_ (a' := ?_) ?_ ?_
          rotate_left
          · show Act.put _ (some 43) _ = _
            simp only [Act.put, List.setIfInBounds_toArray, List.set_cons_zero, List.set_cons_succ, i64_w, i32_w]
            rfl
          refine one_ (i := 3) (N := some 44) #[true, true, true, true, false] rfl rfl (by kernel_rfl) (by decide) (fun K hK => ?_)
          refine goes_ Try.func20 (by kernel_rfl) rfl #[.agg #[.bool t299, .slice Ao291 t300.length co291], .agg #[.bool t309, .slice Ao297 t310.length co297]] (by rfl) rfl rfl (by (try simp only [List.map_toArray, List.map_cons, List.map_nil]); first | done | rfl | (simp only [List.length_drop, List.length_take]; rfl)) ?_
          with_reducible refine (laws_eqPacked.calls k t299 _ _ t300 t309 _ _ t310 _ _ ?side1 ?side2 ?side3 ?side4 A31.out).mono ?_
          (case side1 => exact cS (Kd.R_reads' HO302.out).2.2)
          (case side2 => exact (Kd.R_reads' HO302.out).2.1)
          (case side3 => exact cS (Kd.R_reads' HO312.out).2.2)
          (case side4 => exact (Kd.R_reads' HO312.out).2.1)
          rintro e w298 ⟨rfl, hb⟩
          refine ⟨_, rfl, ?_⟩
          replace HO294 := Aside0.mk (Kd.R_below (rS HO294) hb)
          replace HO297 := Aside0.mk (Kd.R_below (rS HO297) hb)
          replace HO302 := Aside0.mk (Kd.R_below (rS HO302) hb)
          replace HO306 := Aside0.mk (Kd.R_below (rS HO306) hb)
          replace HO312 := Aside0.mk (Kd.R_below (rS HO312) hb)
          replace BK289 := kB (g := gb289) hb
          replace BK303 := kB (g := gb303) hb
          replace HB := hB hb
          (try clear hb)
          (try clear hb2)
          (try clear hk)
          (try clear hi)
          refine hK.out _ _ ⟨(blk_cell BK303.out 0).trans rfl, (blk_cell BK303.out 1).trans rfl, (blk_cell BK289.out 0).trans rfl, (blk_cell BK289.out 1).trans rfl⟩ (fun hHeld => ?_)
          clear hK K
          refine norm_ (a' := ?_) ?_ ?_
          rotate_left
          · show Act.put _ (some 44) _ = _
            simp only [Act.put, List.setIfInBounds_toArray, List.set_cons_zero, List.set_cons_succ, i64_w, i32_w]
            rfl
          refine pure_ (i := 4) (N := some 45) (v := ?_) (a' := ?_) #[true, true, true, true, true] rfl rfl (by kernel_rfl) (fun _ _ _ h => h) (Or.inl ⟨by rfl, ?_⟩) ?_ ?_
          rotate_left
          · intro w'
            go_simp
            with_reducible rfl
          rotate_left
          · simp only [Act.put, List.setIfInBounds_toArray, List.set_cons_zero, List.set_cons_succ, i64_w, i32_w]
            rfl
          refine done_ (by kernel_rfl) ?_
          try go_wp2
          go_ret
          exact ⟨eS, bS⟩
    · obtain rfl := Bool.eq_false_iff.mpr c12
      rw [if_neg nF] at H
      obtain rfl := Option.some.inj H
      exact laws_FnExactUnpackRow.lf0

end Go.Proofs.Ytimpejidlnjhlaa.QFnExactUnpackRow
