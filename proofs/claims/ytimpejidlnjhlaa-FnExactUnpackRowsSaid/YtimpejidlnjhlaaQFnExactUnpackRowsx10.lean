-- Made out of the translation by a program of this session (a changed copy of the print). Not trusted: Lean checks it.
import Derived.Test.YtimpejidlnjhlaaQFnExactUnpackRowsx0
import Derived.Test.YtimpejidlnjhlaaQFnExactUnpackRowsx1
import Derived.Test.YtimpejidlnjhlaaQFnExactUnpackRowsx6
import Derived.Test.YtimpejidlnjhlaaQFnExactUnpackRowsx8
import Derived.Test.YtimpejidlnjhlaaQFnExactUnpackRowsx9
namespace Go.Proofs.Ytimpejidlnjhlaa.QFnExactUnpackRows
open Go.RowKit Go.Proofs.YtimpejidlnjhlaaW.PrintWords Go.Proofs.YtimpejidlnjhlaaW.PrintLast Go.Proofs.YtimpejidlnjhlaaW.PrintMore
attribute [local go_sem] max2_int min2_int max_two min_two max_three min_three max_four min_four   -- for this text's walks alone
set_option linter.unusedVariables false
set_option linter.unusedSimpArgs false
set_option maxHeartbeats 8000000
set_option maxRecDepth 100000

/-! ### laws_FnExactUnpackRows: function 10 -/
def laws_FnExactUnpackRows.f (k : Nat) (l0 : List (S24)) : Option (Bool) := (laws_szPackedS.f k l0 1048576).bind fun t331 => (if t331 < 0 then (some true) else ((laws_toPackedS.f k l0).bind fun t332 => ((spec_UnpackRows.f k t332).bind fun bt335 => ((laws_toPackedS.f k l0).bind fun t339 => ((impl_UnpackRows.f k t339).bind fun bt342 => ((laws_eqIntSS.f k bt342.1 bt335.1).bind fun t346 => (if t346 = true then (if (bt342.2 != bt335.2) = true then (some false) else ((laws_toPackedS.f k l0).bind fun t347 => ((laws_eqPackedS.f k t339 t347).bind fun t350 => (if t350 = true then ((laws_markPackedS.f k t339 1).bind fun bt351 => (if bt351.1 < 0 then (some false) else ((laws_eqIntSS.f k bt342.1 bt335.1).bind fun t353 => (if t353 = true then ((laws_markIntSS.f k bt342.1 1).bind fun bt354 => ((laws_heldIntSS.f k bt354.2 1).bind fun t356 => (if t356 < 0 then (some false) else (if t356 = bt354.1 then ((laws_toPackedS.f k l0).bind fun t357 => ((impl_UnpackRows.f k t357).bind fun bt360 => ((laws_eqIntSS.f k bt360.1 bt335.1).bind fun t364 => (if t364 = true then (if (bt360.2 != bt335.2) = true then (some false) else ((laws_heldIntSS.f k bt354.2 1).bind fun t365 => (if t365 < 0 then (some false) else (if t365 = bt354.1 then (some true) else (some false))))) else (some false))))) else (some false))))) else (some false))))) else (some false))))) else (some false))))))))
theorem laws_FnExactUnpackRows.lf0 {p : Prop} (h : p := by
  go_enter Try.func10, Try.ntmps10
  go_wp2_with (first | ((with_reducible refine gC 58 ?_); refine cL (some 16) Try.func58 #[.slice A0 l0.length c0, .int .i64 1048576] ?_; (with_reducible refine (laws_szPackedS.calls k _ _ l0 1048576 t331 _ ?side1 ?side2 A2.out).mono ?_); (case side1 => repeat (first | exact HR0.out | (with_reducible refine Kd.C_alloc ?_ _) | (with_reducible refine Kd.C_drewN ?_ _) | (with_reducible refine Kd.C_drew ?_))); (case side2 => exact HC0.out); rintro e w103 ⟨rfl, hb⟩; refine ⟨_, rfl, ?_⟩; replace HB := hB hb; (try clear hb); (try clear hb2); (try clear hk); (try clear hi)) | ((with_reducible refine gC 60 ?_); refine cL (some 21) Try.func60 #[.slice A0 l0.length c0] ?_; (with_reducible refine (laws_toPackedS.calls k _ _ l0 t332 _ ?side1 ?side2 A5.out).mono ?_); (case side1 => exact cS (Kd.C_below HR0.out HB.out)); (case side2 => exact HC0.out); rintro e w104 ⟨v333, rfl, ho0, hb⟩; refine ⟨_, rfl, ?_⟩; obtain ⟨b334, HZ334, hz334⟩ := S_born ho0; have HL334 := Aside0.mk (show w.heap.size ≤ b334 from by rw [HZ334.out]; exact (below_size bS)); have HO334 := Aside0.mk (hz334); replace HB := hB hb; (try clear hb); (try clear hb2); (try clear hk); (try clear hi); (try clear ho0); obtain ⟨Ao105, co105, eo105⟩ := Kd.S_slice HO334.out; subst eo105) | ((with_reducible refine gC 59 ?_); refine cL (some 22) Try.func59 #[.slice Ao105 t332.length co105] ?_; (with_reducible refine (spec_UnpackRows.calls k _ _ t332 t335 t336 _ ?side1 ?side2 A6.out).mono ?_); (case side1 => exact cS (Kd.S_reads' HO334.out).2.2); (case side2 => exact (Kd.S_reads' HO334.out).2.1); rintro e w106 ⟨v337, rfl, ho0, hb⟩; refine ⟨_, rfl, ?_⟩; obtain ⟨b338, HZ338, hz338⟩ := S_born ho0; have HL338 := Aside0.mk (show w.heap.size ≤ b338 from by rw [HZ338.out]; exact (below_size bS)); have HO338 := Aside0.mk (hz338); replace HO334 := Aside0.mk (S_oldB (by (with_reducible repeat (first | apply Kd.S_alloc | apply Kd.S_drewN | apply Kd.S_drew)); exact HO334.out) hb HZ338.out); replace HB := hB hb; (try clear hb); (try clear hb2); (try clear hk); (try clear hi); (try clear ho0)) | ((with_reducible refine gC 60 ?_); refine cL (some 26) Try.func60 #[.slice A0 l0.length c0] ?_; (with_reducible refine (laws_toPackedS.calls k _ _ l0 t339 _ ?side1 ?side2 A7.out).mono ?_); (case side1 => exact cS (Kd.C_below HR0.out HB.out)); (case side2 => exact HC0.out); rintro e w107 ⟨v340, rfl, ho0, hb⟩; refine ⟨_, rfl, ?_⟩; obtain ⟨b341, HZ341, hz341⟩ := S_born ho0; have HL341 := Aside0.mk (show w.heap.size ≤ b341 from by rw [HZ341.out]; exact (below_size bS)); have HO341 := Aside0.mk (hz341); replace HO334 := Aside0.mk (S_oldB (by (with_reducible repeat (first | apply Kd.S_alloc | apply Kd.S_drewN | apply Kd.S_drew)); exact HO334.out) hb HZ341.out); replace HO338 := Aside0.mk (S_oldB (by (with_reducible repeat (first | apply Kd.S_alloc | apply Kd.S_drewN | apply Kd.S_drew)); exact HO338.out) hb HZ341.out); replace HB := hB hb; (try clear hb); (try clear hb2); (try clear hk); (try clear hi); (try clear ho0); obtain ⟨Ao108, co108, eo108⟩ := Kd.S_slice HO341.out; subst eo108) | ((with_reducible refine gC 61 ?_); refine cL (some 29) Try.func61 #[.slice Ao108 t339.length co108] ?_; (with_reducible refine (impl_UnpackRows.calls k _ _ t339 t342 t343 _ ?side1 ?side2 A8.out).mono ?_); (case side1 => exact cS (Kd.S_reads' HO341.out).2.2); (case side2 => exact (Kd.S_reads' HO341.out).2.1); rintro e w109 ⟨v344, rfl, ho0, hb⟩; refine ⟨_, rfl, ?_⟩; obtain ⟨b345, HZ345, hz345⟩ := S_born ho0; have HL345 := Aside0.mk (show w.heap.size ≤ b345 from by rw [HZ345.out]; exact (below_size bS)); have HO345 := Aside0.mk (hz345); replace HO334 := Aside0.mk (S_oldB (by (with_reducible repeat (first | apply Kd.S_alloc | apply Kd.S_drewN | apply Kd.S_drew)); exact HO334.out) hb HZ345.out); replace HO338 := Aside0.mk (S_oldB (by (with_reducible repeat (first | apply Kd.S_alloc | apply Kd.S_drewN | apply Kd.S_drew)); exact HO338.out) hb HZ345.out); replace HO341 := Aside0.mk (S_oldB (by (with_reducible repeat (first | apply Kd.S_alloc | apply Kd.S_drewN | apply Kd.S_drew)); exact HO341.out) hb HZ345.out); replace HB := hB hb; (try clear hb); (try clear hb2); (try clear hk); (try clear hi); (try clear ho0); obtain ⟨Ao110, co110, eo110⟩ := Kd.S_slice HO345.out; subst eo110; obtain ⟨Ao111, co111, eo111⟩ := Kd.S_slice HO338.out; subst eo111) | ((with_reducible refine gC 62 ?_); refine cL (some 34) Try.func62 #[.slice Ao110 t342.length co110, .slice Ao111 t335.length co111] ?_; (with_reducible refine (laws_eqIntSS.calls k _ _ t342 _ _ t335 _ _ ?side1 ?side2 ?side3 ?side4 A9.out).mono ?_); (case side1 => exact cS (Kd.S_reads' HO345.out).2.2); (case side2 => exact (Kd.S_reads' HO345.out).2.1); (case side3 => exact cS (Kd.S_reads' HO338.out).2.2); (case side4 => exact (Kd.S_reads' HO338.out).2.1); rintro e w' ⟨rfl, ⟨nd, rfl⟩⟩; refine ⟨_, rfl, ?_⟩) | ((with_reducible refine gC 60 ?_); refine cL (some 43) Try.func60 #[.slice A0 l0.length c0] ?_; (with_reducible refine (laws_toPackedS.calls k _ _ l0 t347 _ ?side1 ?side2 A21.out).mono ?_); (case side1 => exact cS (Kd.C_below HR0.out bS)); (case side2 => exact HC0.out); rintro e w112 ⟨v348, rfl, ho0, hb⟩; refine ⟨_, rfl, ?_⟩; obtain ⟨b349, HZ349, hz349⟩ := S_born ho0; have HL349 := Aside0.mk (show w.heap.size ≤ b349 from by rw [HZ349.out]; exact (below_size bS)); have HO349 := Aside0.mk (hz349); replace HO334 := Aside0.mk (S_oldB (by (with_reducible repeat (first | apply Kd.S_alloc | apply Kd.S_drewN | apply Kd.S_drew)); exact HO334.out) hb HZ349.out); replace HO338 := Aside0.mk (S_oldB (by (with_reducible repeat (first | apply Kd.S_alloc | apply Kd.S_drewN | apply Kd.S_drew)); exact HO338.out) hb HZ349.out); replace HO341 := Aside0.mk (S_oldB (by (with_reducible repeat (first | apply Kd.S_alloc | apply Kd.S_drewN | apply Kd.S_drew)); exact HO341.out) hb HZ349.out); replace HO345 := Aside0.mk (S_oldB (by (with_reducible repeat (first | apply Kd.S_alloc | apply Kd.S_drewN | apply Kd.S_drew)); exact HO345.out) hb HZ349.out); replace HB := hB hb; (try clear hb); (try clear hb2); (try clear hk); (try clear hi); (try clear ho0); obtain ⟨Ao113, co113, eo113⟩ := Kd.S_slice HO349.out; subst eo113) | ((with_reducible refine gC 63 ?_); refine cL (some 44) Try.func63 #[.slice Ao108 t339.length co108, .slice Ao113 t347.length co113] ?_; (with_reducible refine (laws_eqPackedS.calls k _ _ t339 _ _ t347 _ _ ?side1 ?side2 ?side3 ?side4 A22.out).mono ?_); (case side1 => exact cS (Kd.S_reads' HO341.out).2.2); (case side2 => exact (Kd.S_reads' HO341.out).2.1); (case side3 => exact cS (Kd.S_reads' HO349.out).2.2); (case side4 => exact (Kd.S_reads' HO349.out).2.1); rintro e w114 ⟨rfl, hb⟩; refine ⟨_, rfl, ?_⟩; replace HO334 := Aside0.mk (Kd.S_below (by (with_reducible repeat (first | apply Kd.S_alloc | apply Kd.S_drewN | apply Kd.S_drew)); exact HO334.out) hb); replace HO338 := Aside0.mk (Kd.S_below (by (with_reducible repeat (first | apply Kd.S_alloc | apply Kd.S_drewN | apply Kd.S_drew)); exact HO338.out) hb); replace HO341 := Aside0.mk (Kd.S_below (by (with_reducible repeat (first | apply Kd.S_alloc | apply Kd.S_drewN | apply Kd.S_drew)); exact HO341.out) hb); replace HO345 := Aside0.mk (Kd.S_below (by (with_reducible repeat (first | apply Kd.S_alloc | apply Kd.S_drewN | apply Kd.S_drew)); exact HO345.out) hb); replace HO349 := Aside0.mk (Kd.S_below (by (with_reducible repeat (first | apply Kd.S_alloc | apply Kd.S_drewN | apply Kd.S_drew)); exact HO349.out) hb); replace HB := hB hb; (try clear hb); (try clear hb2); (try clear hk); (try clear hi)) | ((with_reducible refine gC 64 ?_); refine cL (some 48) Try.func64 #[.slice Ao108 t339.length co108, .int .i64 1] ?_; (with_reducible refine (laws_markPackedS.calls k (fun k_ => (w.heap.size ≤ k_ ∧ ∃ q_, q_ ∈ 28 :: k28.E ∧ ∃ c_, w114.heap[k_]? = some (.cells c_ q_ (0, 0))) ∧ b341 ≤ k_ ∧ k_ < b345 ∧ k_ < b349 ∧ True) (.slice Ao108 t339.length co108) t339 1 t351 t352 w _ ?side1 ?side2 A24.out).mono ?_); (case side1 => repeat (first | (with_reducible first | exact HB.out | apply below_alloc | apply pw_below_drewN | apply below_drew1) | exact HB.out)); (case side2 => (with_reducible repeat (first | apply Kd.S_alloc | apply Kd.S_drewN | apply Kd.S_drew)); exact Kd.S_lower (Kd.S_mono (Kd.S_bound HO341.out) (fun k_ h_ => ⟨⟨Nat.le_trans HL341.out h_.2.1, h_.2.2.2⟩, h_.2.1, h_.1.1.2, h_.1.2, trivial⟩)) HL341.out); rintro e w115 ⟨rfl, hy0, hb, hkp⟩; refine ⟨_, rfl, ?_⟩; replace HO334 := Aside0.mk (Kd.S_mono (ok' := fun k_ => k_ < b338 ∧ k_ < b341 ∧ k_ < b345 ∧ k_ < b349) (Kd.S_keptB ((S_not (fun k_ => (w.heap.size ≤ k_ ∧ ∃ q_, q_ ∈ 28 :: k28.E ∧ ∃ c_, w114.heap[k_]? = some (.cells c_ q_ (0, 0))) ∧ b341 ≤ k_ ∧ k_ < b345 ∧ k_ < b349 ∧ True) HO334.out (fun k_ h_ e_ => Nat.not_le.2 (h_.1.1.1.2) e_.2.1))) hkp (fun k_ hk_ hs_ => (hk_.2) hs_)) (fun k_ hk_ => ⟨hk_.1.1.1.1.1.2, hk_.1.1.1.1.2, hk_.1.1.1.2, hk_.1.1.2⟩)); replace HO338 := Aside0.mk (Kd.S_mono (ok' := fun k_ => k_ < b341 ∧ k_ < b345 ∧ k_ < b349) (Kd.S_keptB ((S_not (fun k_ => (w.heap.size ≤ k_ ∧ ∃ q_, q_ ∈ 28 :: k28.E ∧ ∃ c_, w114.heap[k_]? = some (.cells c_ q_ (0, 0))) ∧ b341 ≤ k_ ∧ k_ < b345 ∧ k_ < b349 ∧ True) HO338.out (fun k_ h_ e_ => Nat.not_le.2 (h_.1.1.1.2) e_.2.1))) hkp (fun k_ hk_ hs_ => (hk_.2) hs_)) (fun k_ hk_ => ⟨hk_.1.1.1.1.2, hk_.1.1.1.2, hk_.1.1.2⟩)); replace HO341 := Aside0.mk (Kd.S_mono (ok' := fun _ => True) hy0 (fun _ _ => trivial)); replace HO345 := Aside0.mk (Kd.S_mono (ok' := fun k_ => k_ < b349) (Kd.S_keptB ((S_not (fun k_ => (w.heap.size ≤ k_ ∧ ∃ q_, q_ ∈ 28 :: k28.E ∧ ∃ c_, w114.heap[k_]? = some (.cells c_ q_ (0, 0))) ∧ b341 ≤ k_ ∧ k_ < b345 ∧ k_ < b349 ∧ True) HO345.out (fun k_ h_ e_ => Nat.not_lt.2 h_.2.1 (e_.2.2.1)))) hkp (fun k_ hk_ hs_ => (hk_.2) hs_)) (fun k_ hk_ => hk_.1.1.2)); replace HO349 := Aside0.mk (Kd.S_mono (ok' := fun k_ => True) (Kd.S_keptB ((S_not (fun k_ => (w.heap.size ≤ k_ ∧ ∃ q_, q_ ∈ 28 :: k28.E ∧ ∃ c_, w114.heap[k_]? = some (.cells c_ q_ (0, 0))) ∧ b341 ≤ k_ ∧ k_ < b345 ∧ k_ < b349 ∧ True) HO349.out (fun k_ h_ e_ => Nat.not_lt.2 h_.2.1 (e_.2.2.2.1)))) hkp (fun k_ hk_ hs_ => (hk_.2) hs_)) (fun k_ hk_ => trivial)); replace HB := Aside0.mk (hb); (try clear hb); (try clear hkp); (try clear hy0)) | (go_at_call 62; (with_reducible refine (laws_eqIntSS.calls k _ _ t342 _ _ t335 _ _ ?side1 ?side2 ?side3 ?side4 A39.out).mono ?_); (case side1 => exact cS (Kd.S_reads' HO345.out).2.2); (case side2 => exact (Kd.S_reads' HO345.out).2.1); (case side3 => exact cS (Kd.S_reads' HO338.out).2.2); (case side4 => exact (Kd.S_reads' HO338.out).2.1); rintro e w' ⟨rfl, ⟨nd, rfl⟩⟩) | ((with_reducible refine gC 65 ?_); refine cL (some 64) Try.func65 #[.slice Ao110 t342.length co110, .int .i64 1] ?_; (with_reducible refine (laws_markIntSS.calls k (fun k_ => (w.heap.size ≤ k_ ∧ ∃ q_, q_ ∈ 22 :: (Kd.slice 3 (Kd.int .i64)).E ∧ ∃ c_, w115.heap[k_]? = some (.cells c_ q_ (0, 0))) ∧ b345 ≤ k_ ∧ k_ < b349 ∧ True) (.slice Ao110 t342.length co110) t342 1 t354 t355 w _ ?side1 ?side2 A41.out).mono ?_); (case side1 => repeat (first | (with_reducible first | exact HB.out | apply below_alloc | apply pw_below_drewN | apply below_drew1) | exact HB.out)); (case side2 => (with_reducible repeat (first | apply Kd.S_alloc | apply Kd.S_drewN | apply Kd.S_drew)); exact Kd.S_lower (Kd.S_mono (Kd.S_bound HO345.out) (fun k_ h_ => ⟨⟨Nat.le_trans HL345.out h_.2.1, h_.2.2.2⟩, h_.2.1, h_.1, trivial⟩)) HL345.out); rintro e w116 ⟨rfl, hy0, hb, hkp⟩; refine ⟨_, rfl, ?_⟩; replace HO334 := Aside0.mk (Kd.S_mono (ok' := fun k_ => k_ < b338 ∧ k_ < b341 ∧ k_ < b345 ∧ k_ < b349) (Kd.S_keptB ((S_not (fun k_ => (w.heap.size ≤ k_ ∧ ∃ q_, q_ ∈ 22 :: (Kd.slice 3 (Kd.int .i64)).E ∧ ∃ c_, w115.heap[k_]? = some (.cells c_ q_ (0, 0))) ∧ b345 ≤ k_ ∧ k_ < b349 ∧ True) HO334.out (fun k_ h_ e_ => Nat.not_le.2 (h_.1.2.2.1) e_.2.1))) hkp (fun k_ hk_ hs_ => (hk_.2) hs_)) (fun k_ hk_ => ⟨hk_.1.1.1, hk_.1.1.2.1, hk_.1.1.2.2.1, hk_.1.1.2.2.2⟩)); replace HO338 := Aside0.mk (Kd.S_mono (ok' := fun k_ => k_ < b341 ∧ k_ < b345 ∧ k_ < b349) (Kd.S_keptB ((S_not (fun k_ => (w.heap.size ≤ k_ ∧ ∃ q_, q_ ∈ 22 :: (Kd.slice 3 (Kd.int .i64)).E ∧ ∃ c_, w115.heap[k_]? = some (.cells c_ q_ (0, 0))) ∧ b345 ≤ k_ ∧ k_ < b349 ∧ True) HO338.out (fun k_ h_ e_ => Nat.not_le.2 (h_.1.2.1) e_.2.1))) hkp (fun k_ hk_ hs_ => (hk_.2) hs_)) (fun k_ hk_ => ⟨hk_.1.1.1, hk_.1.1.2.1, hk_.1.1.2.2⟩)); replace HO345 := Aside0.mk (Kd.S_mono (ok' := fun _ => True) hy0 (fun _ _ => trivial)); replace HO349 := Aside0.mk (Kd.S_mono (ok' := fun k_ => True) (Kd.S_keptB ((S_not (fun k_ => (w.heap.size ≤ k_ ∧ ∃ q_, q_ ∈ 22 :: (Kd.slice 3 (Kd.int .i64)).E ∧ ∃ c_, w115.heap[k_]? = some (.cells c_ q_ (0, 0))) ∧ b345 ≤ k_ ∧ k_ < b349 ∧ True) HO349.out (fun k_ h_ e_ => Nat.not_lt.2 h_.2.1 (e_.2.2.1)))) hkp (fun k_ hk_ hs_ => (hk_.2) hs_)) (fun k_ hk_ => trivial)); replace HB := Aside0.mk (hb); clear HO341; (try clear hb); (try clear hkp); (try clear hy0)) | ((with_reducible refine gC 66 ?_); refine goesL_ (some 67) rfl rfl Try.func66 (by kernel_rfl) rfl #[.slice Ao110 t355.length co110, .int .i64 1] rfl (by (try simp only [List.map_toArray, List.map_cons, List.map_nil]); first | done | (rw [show t355.length = t342.length from (Kd.S_reads' HO345.out).1.symm] <;> rfl) | rfl | (simp only [List.length_drop, List.length_take]; rfl)) ?_; (with_reducible refine (laws_heldIntSS.calls k _ _ t355 1 t356 _ ?side1 ?side2 A42.out).mono ?_); (case side1 => exact cS (Kd.S_reads' HO345.out).2.2); (case side2 => rw [show t355.length = t342.length from (Kd.S_reads' HO345.out).1.symm]; exact (Kd.S_reads' HO345.out).2.1); rintro e w' ⟨rfl, ⟨nd, rfl⟩⟩; refine ⟨_, rfl, ?_⟩) | ((with_reducible refine gC 60 ?_); refine cL (some 75) Try.func60 #[.slice A0 l0.length c0] ?_; (with_reducible refine (laws_toPackedS.calls k _ _ l0 t357 _ ?side1 ?side2 A59.out).mono ?_); (case side1 => exact cS (Kd.C_below HR0.out bS)); (case side2 => exact HC0.out); rintro e w117 ⟨v358, rfl, ho0, hb⟩; refine ⟨_, rfl, ?_⟩; obtain ⟨b359, HZ359, hz359⟩ := S_born ho0; have HL359 := Aside0.mk (show w.heap.size ≤ b359 from by rw [HZ359.out]; exact (below_size bS)); have HO359 := Aside0.mk (hz359); replace HO334 := Aside0.mk (S_oldB (by (with_reducible repeat (first | apply Kd.S_alloc | apply Kd.S_drewN | apply Kd.S_drew)); exact HO334.out) hb HZ359.out); replace HO338 := Aside0.mk (S_oldB (by (with_reducible repeat (first | apply Kd.S_alloc | apply Kd.S_drewN | apply Kd.S_drew)); exact HO338.out) hb HZ359.out); replace HO345 := Aside0.mk (S_oldB (by (with_reducible repeat (first | apply Kd.S_alloc | apply Kd.S_drewN | apply Kd.S_drew)); exact HO345.out) hb HZ359.out); replace HO349 := Aside0.mk (S_oldB (by (with_reducible repeat (first | apply Kd.S_alloc | apply Kd.S_drewN | apply Kd.S_drew)); exact HO349.out) hb HZ359.out); replace HB := hB hb; (try clear hb); (try clear hb2); (try clear hk); (try clear hi); (try clear ho0); obtain ⟨Ao118, co118, eo118⟩ := Kd.S_slice HO359.out; subst eo118) | ((with_reducible refine gC 61 ?_); refine cL (some 76) Try.func61 #[.slice Ao118 t357.length co118] ?_; (with_reducible refine (impl_UnpackRows.calls k _ _ t357 t360 t361 _ ?side1 ?side2 A60.out).mono ?_); (case side1 => exact cS (Kd.S_reads' HO359.out).2.2); (case side2 => exact (Kd.S_reads' HO359.out).2.1); rintro e w119 ⟨v362, rfl, ho0, hb⟩; refine ⟨_, rfl, ?_⟩; obtain ⟨b363, HZ363, hz363⟩ := S_born ho0; have HL363 := Aside0.mk (show w.heap.size ≤ b363 from by rw [HZ363.out]; exact (below_size bS)); have HO363 := Aside0.mk (hz363); replace HO334 := Aside0.mk (S_oldB (by (with_reducible repeat (first | apply Kd.S_alloc | apply Kd.S_drewN | apply Kd.S_drew)); exact HO334.out) hb HZ363.out); replace HO338 := Aside0.mk (S_oldB (by (with_reducible repeat (first | apply Kd.S_alloc | apply Kd.S_drewN | apply Kd.S_drew)); exact HO338.out) hb HZ363.out); replace HO345 := Aside0.mk (S_oldB (by (with_reducible repeat (first | apply Kd.S_alloc | apply Kd.S_drewN | apply Kd.S_drew)); exact HO345.out) hb HZ363.out); replace HO349 := Aside0.mk (S_oldB (by (with_reducible repeat (first | apply Kd.S_alloc | apply Kd.S_drewN | apply Kd.S_drew)); exact HO349.out) hb HZ363.out); replace HO359 := Aside0.mk (S_oldB (by (with_reducible repeat (first | apply Kd.S_alloc | apply Kd.S_drewN | apply Kd.S_drew)); exact HO359.out) hb HZ363.out); replace HB := hB hb; (try clear hb); (try clear hb2); (try clear hk); (try clear hi); (try clear ho0); obtain ⟨Ao120, co120, eo120⟩ := Kd.S_slice HO363.out; subst eo120) | ((with_reducible refine gC 62 ?_); refine cL (some 81) Try.func62 #[.slice Ao120 t360.length co120, .slice Ao111 t335.length co111] ?_; (with_reducible refine (laws_eqIntSS.calls k _ _ t360 _ _ t335 _ _ ?side1 ?side2 ?side3 ?side4 A61.out).mono ?_); (case side1 => exact cS (Kd.S_reads' HO363.out).2.2); (case side2 => exact (Kd.S_reads' HO363.out).2.1); (case side3 => exact cS (Kd.S_reads' HO338.out).2.2); (case side4 => exact (Kd.S_reads' HO338.out).2.1); rintro e w' ⟨rfl, ⟨nd, rfl⟩⟩; refine ⟨_, rfl, ?_⟩) | ((with_reducible refine gC 66 ?_); refine goesL_ (some 90) rfl rfl Try.func66 (by kernel_rfl) rfl #[.slice Ao110 t355.length co110, .int .i64 1] rfl (by (try simp only [List.map_toArray, List.map_cons, List.map_nil]); first | done | (rw [show t355.length = t342.length from (Kd.S_reads' HO345.out).1.symm] <;> rfl) | rfl | (simp only [List.length_drop, List.length_take]; rfl)) ?_; (with_reducible refine (laws_heldIntSS.calls k _ _ t355 1 t365 _ ?side1 ?side2 A82.out).mono ?_); (case side1 => exact cS (Kd.S_reads' HO345.out).2.2); (case side2 => rw [show t355.length = t342.length from (Kd.S_reads' HO345.out).1.symm]; exact (Kd.S_reads' HO345.out).2.1); rintro e w' ⟨rfl, ⟨nd, rfl⟩⟩; refine ⟨_, rfl, ?_⟩))
  go_ret
  exact ⟨eS, bS⟩) : p := h
theorem laws_FnExactUnpackRows.calls (k : Nat) (A0 : Option Addr) (c0 : Nat) (l0 : List (S24)) (r : Bool) (w : World) (hr0 : Kd.C k24 w A0 l0.length l0) (hc0 : l0.length ≤ c0) (h : laws_FnExactUnpackRows.f k l0 = some r) :
    Calls Try.prog 10 #[.slice A0 l0.length c0] w fun e w' => e = .returned (.bool r) ∧ Below w.heap.size w w' := by
  have HR0 := Aside0.mk hr0
  have HC0 := Aside0.mk hc0
  clear hr0 hc0
  have HB := Aside0.mk (Below.refl w.heap.size w)
  have H : ((laws_szPackedS.f k l0 1048576).bind fun t331 => (if t331 < 0 then (some true) else ((laws_toPackedS.f k l0).bind fun t332 => ((spec_UnpackRows.f k t332).bind fun bt335 => ((laws_toPackedS.f k l0).bind fun t339 => ((impl_UnpackRows.f k t339).bind fun bt342 => ((laws_eqIntSS.f k bt342.1 bt335.1).bind fun t346 => (if t346 = true then (if (bt342.2 != bt335.2) = true then (some false) else ((laws_toPackedS.f k l0).bind fun t347 => ((laws_eqPackedS.f k t339 t347).bind fun t350 => (if t350 = true then ((laws_markPackedS.f k t339 1).bind fun bt351 => (if bt351.1 < 0 then (some false) else ((laws_eqIntSS.f k bt342.1 bt335.1).bind fun t353 => (if t353 = true then ((laws_markIntSS.f k bt342.1 1).bind fun bt354 => ((laws_heldIntSS.f k bt354.2 1).bind fun t356 => (if t356 < 0 then (some false) else (if t356 = bt354.1 then ((laws_toPackedS.f k l0).bind fun t357 => ((impl_UnpackRows.f k t357).bind fun bt360 => ((laws_eqIntSS.f k bt360.1 bt335.1).bind fun t364 => (if t364 = true then (if (bt360.2 != bt335.2) = true then (some false) else ((laws_heldIntSS.f k bt354.2 1).bind fun t365 => (if t365 < 0 then (some false) else (if t365 = bt354.1 then (some true) else (some false))))) else (some false))))) else (some false))))) else (some false))))) else (some false))))) else (some false))))))))) = some r := h
  clear h
  replace H := bN H
  obtain ⟨t331, A2, H⟩ := H
  by_cases c3 : t331 < 0
  · rw [if_pos c3] at H
    have c3b0 : decide (t331 < 0) = true := decide_eq_true c3
    clear c3
    obtain rfl := Option.some.inj H
    exact laws_FnExactUnpackRows.lf0
  · rw [if_neg c3] at H
    have c3b0 : decide (t331 < 0) = false := decide_eq_false c3
    clear c3
    replace H := bN H
    obtain ⟨t332, A5, H⟩ := H
    replace H := bN H
    obtain ⟨⟨t335, t336⟩, A6, H⟩ := H
    replace H := bN H
    obtain ⟨t339, A7, H⟩ := H
    replace H := bN H
    obtain ⟨⟨t342, t343⟩, A8, H⟩ := H
    replace H := bN H
    obtain ⟨t346, A9, H⟩ := H
    by_cases c10 : t346 = true
    · subst c10
      rw [if_pos rfl] at H
      by_cases c11 : (t343 != t336) = true
      · rw [if_pos c11] at H
        have c11b0 : (t343 != t336) = true := c11
        (try (have c11b1 : decide (t343 = t336) = false := by simpa using c11))
        (try (have c11b2 : (t343 == t336) = false := by simpa using c11))
        (try (have c11b3 : ¬ (t343 = t336) := by simpa using c11))
        clear c11
        obtain rfl := Option.some.inj H
        exact laws_FnExactUnpackRows.lf0
      · rw [if_neg c11] at H
        have c11b0 : (t343 != t336) = false := by simpa using c11
        (try (have c11b1 : decide (t343 = t336) = true := by simpa using c11))
        (try (have c11b2 : (t343 == t336) = true := by simpa using c11))
        clear c11
        replace H := bN H
        obtain ⟨t347, A21, H⟩ := H
        replace H := bN H
        obtain ⟨t350, A22, H⟩ := H
        by_cases c23 : t350 = true
        · subst c23
          rw [if_pos rfl] at H
          replace H := bN H
          obtain ⟨⟨t351, t352⟩, A24, H⟩ := H
          by_cases c25 : t351 < 0
          · rw [if_pos c25] at H
            have c25b0 : decide (t351 < 0) = true := decide_eq_true c25
            clear c25
            obtain rfl := Option.some.inj H
            exact laws_FnExactUnpackRows.lf0
          · rw [if_neg c25] at H
            have c25b0 : decide (t351 < 0) = false := decide_eq_false c25
            clear c25
            replace H := bN H
            obtain ⟨t353, A39, H⟩ := H
            by_cases c40 : t353 = true
            · subst c40
              rw [if_pos rfl] at H
              replace H := bN H
              obtain ⟨⟨t354, t355⟩, A41, H⟩ := H
              replace H := bN H
              obtain ⟨t356, A42, H⟩ := H
              by_cases c43 : t356 < 0
              · rw [if_pos c43] at H
                have c43b0 : decide (t356 < 0) = true := decide_eq_true c43
                clear c43
                obtain rfl := Option.some.inj H
                exact laws_FnExactUnpackRows.lf0
              · rw [if_neg c43] at H
                have c43b0 : decide (t356 < 0) = false := decide_eq_false c43
                clear c43
                by_cases c58 : t356 = t354
                · rw [if_pos c58] at H
                  have c58b0 : (t356 == t354) = true := beq_iff_eq.mpr c58
                  have c58b1 : (t356 != t354) = false := bne_eq_false_iff_eq.mpr c58
                  clear c58
                  replace H := bN H
                  obtain ⟨t357, A59, H⟩ := H
                  replace H := bN H
                  obtain ⟨⟨t360, t361⟩, A60, H⟩ := H
                  replace H := bN H
                  obtain ⟨t364, A61, H⟩ := H
                  by_cases c62 : t364 = true
                  · subst c62
                    rw [if_pos rfl] at H
                    by_cases c63 : (t361 != t336) = true
                    · rw [if_pos c63] at H
                      have c63b0 : (t361 != t336) = true := c63
                      (try (have c63b1 : decide (t361 = t336) = false := by simpa using c63))
                      (try (have c63b2 : (t361 == t336) = false := by simpa using c63))
                      (try (have c63b3 : ¬ (t361 = t336) := by simpa using c63))
                      clear c63
                      obtain rfl := Option.some.inj H
                      exact laws_FnExactUnpackRows.lf0
                    · rw [if_neg c63] at H
                      have c63b0 : (t361 != t336) = false := by simpa using c63
                      (try (have c63b1 : decide (t361 = t336) = true := by simpa using c63))
                      (try (have c63b2 : (t361 == t336) = true := by simpa using c63))
                      clear c63
                      replace H := bN H
                      obtain ⟨t365, A82, H⟩ := H
                      by_cases c83 : t365 < 0
                      · rw [if_pos c83] at H
                        have c83b0 : decide (t365 < 0) = true := decide_eq_true c83
                        clear c83
                        obtain rfl := Option.some.inj H
                        exact laws_FnExactUnpackRows.lf0
                      · rw [if_neg c83] at H
                        have c83b0 : decide (t365 < 0) = false := decide_eq_false c83
                        clear c83
                        by_cases c102 : t365 = t354
                        · rw [if_pos c102] at H
                          have c102b0 : (t365 == t354) = true := beq_iff_eq.mpr c102
                          have c102b1 : (t365 != t354) = false := bne_eq_false_iff_eq.mpr c102
                          clear c102
                          obtain rfl := Option.some.inj H
                          exact laws_FnExactUnpackRows.lf0
                        · rw [if_neg c102] at H
                          have c102b0 : (t365 == t354) = false := beq_eq_false_iff_ne.mpr c102
                          have c102b1 : (t365 != t354) = true := bne_iff_ne.mpr c102
                          obtain rfl := Option.some.inj H
                          exact laws_FnExactUnpackRows.lf0
                  · obtain rfl := Bool.eq_false_iff.mpr c62
                    rw [if_neg nF] at H
                    obtain rfl := Option.some.inj H
                    exact laws_FnExactUnpackRows.lf0
                · rw [if_neg c58] at H
                  have c58b0 : (t356 == t354) = false := beq_eq_false_iff_ne.mpr c58
                  have c58b1 : (t356 != t354) = true := bne_iff_ne.mpr c58
                  obtain rfl := Option.some.inj H
                  exact laws_FnExactUnpackRows.lf0
            · obtain rfl := Bool.eq_false_iff.mpr c40
              rw [if_neg nF] at H
              obtain rfl := Option.some.inj H
              exact laws_FnExactUnpackRows.lf0
        · obtain rfl := Bool.eq_false_iff.mpr c23
          rw [if_neg nF] at H
          obtain rfl := Option.some.inj H
          exact laws_FnExactUnpackRows.lf0
    · obtain rfl := Bool.eq_false_iff.mpr c10
      rw [if_neg nF] at H
      obtain rfl := Option.some.inj H
      exact laws_FnExactUnpackRows.lf0

end Go.Proofs.Ytimpejidlnjhlaa.QFnExactUnpackRows
