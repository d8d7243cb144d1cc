-- Made out of the translation by a program of this session (a changed copy of the print). Not trusted: Lean checks it.
import Derived.Test.YtimpejidlnjhlaaQFnExactObjectsOfBandx0
import Derived.Test.YtimpejidlnjhlaaQFnExactObjectsOfBandx1
import Derived.Test.YtimpejidlnjhlaaQFnExactObjectsOfBandx2
import Derived.Test.YtimpejidlnjhlaaQFnExactObjectsOfBandx5
import Derived.Test.YtimpejidlnjhlaaQFnExactObjectsOfBandx7
namespace Go.Proofs.Ytimpejidlnjhlaa.QFnExactObjectsOfBand
open Go.RowKit Go.Proofs.YtimpejidlnjhlaaW.PrintWords Go.Proofs.YtimpejidlnjhlaaW.PrintLast Go.Proofs.YtimpejidlnjhlaaW.PrintMore
attribute [local go_sem] max2_int min2_int max_two min_two max_three min_three max_four min_four   -- for this text's walks alone
set_option linter.unusedVariables false
set_option linter.unusedSimpArgs false
set_option maxHeartbeats 8000000
set_option maxRecDepth 100000

/-! ### laws_FnExactObjectsOfBand: function 11 -/
def laws_FnExactObjectsOfBand.f (k : Nat) (l0 : List (S91)) (a1 : Int) (a2 : Int) : Option (Bool) := (laws_szObjectS.f k l0 1048576).bind fun t343 => (if t343 < 0 then (some true) else ((laws_toObjectS.f k l0).bind fun t344 => ((spec_ObjectsOfBand.f k t344 a1 a2).bind fun t347 => ((laws_toObjectS.f k l0).bind fun t350 => ((impl_ObjectsOfBand.f k t350 a1 a2).bind fun t353 => ((laws_eqObjectS.f k t353 t347).bind fun t356 => (if t356 = true then ((laws_toObjectS.f k l0).bind fun t357 => ((laws_eqObjectS.f k t350 t357).bind fun t360 => (if t360 = true then ((laws_markObjectS.f k t350 1).bind fun bt361 => (if bt361.1 < 0 then (some false) else ((laws_eqObjectS.f k t353 t347).bind fun t363 => (if t363 = true then ((laws_markObjectS.f k t353 1).bind fun bt364 => ((laws_heldObjectS.f k bt364.2 1).bind fun t366 => (if t366 < 0 then (some false) else (if t366 = bt364.1 then ((laws_toObjectS.f k l0).bind fun t367 => ((impl_ObjectsOfBand.f k t367 a1 a2).bind fun t370 => ((laws_eqObjectS.f k t370 t347).bind fun t373 => (if t373 = true then ((laws_heldObjectS.f k bt364.2 1).bind fun t374 => (if t374 < 0 then (some false) else (if t374 = bt364.1 then (some true) else (some false)))) else (some false))))) else (some false))))) else (some false))))) else (some false)))) else (some false))))))))
theorem laws_FnExactObjectsOfBand.lf0 {p : Prop} (h : p := by
  go_enter Try.func11, Try.ntmps11
  go_wp2_with (first | ((with_reducible refine gC 36 ?_); refine cL (some 17) Try.func36 #[.slice A0 l0.length c0, .int .i64 1048576] ?_; (with_reducible refine (laws_szObjectS.calls k _ _ l0 1048576 t343 _ ?side1 ?side2 A4.out).mono ?_); (case side1 => repeat (first | exact HR0.out | (with_reducible refine Kd.C_alloc ?_ _) | (with_reducible refine Kd.C_drewN ?_ _) | (with_reducible refine Kd.C_drew ?_))); (case side2 => exact HC0.out); rintro e w103 ⟨rfl, hb⟩; refine ⟨_, rfl, ?_⟩; replace HB := hB hb; (try clear hb); (try clear hb2); (try clear hk); (try clear hi)) | ((with_reducible refine gC 38 ?_); refine cL (some 21) Try.func38 #[.slice A0 l0.length c0] ?_; (with_reducible refine (laws_toObjectS.calls k _ _ l0 t344 _ ?side1 ?side2 A7.out).mono ?_); (case side1 => exact cS (Kd.C_below HR0.out HB.out)); (case side2 => exact HC0.out); rintro e w104 ⟨v345, rfl, ho0, hb⟩; refine ⟨_, rfl, ?_⟩; obtain ⟨b346, HZ346, hz346⟩ := S_born ho0; have HL346 := Aside0.mk (show w.heap.size ≤ b346 from by rw [HZ346.out]; exact (below_size bS)); have HO346 := Aside0.mk (hz346); replace HB := hB hb; (try clear hb); (try clear hb2); (try clear hk); (try clear hi); (try clear ho0); obtain ⟨Ao105, co105, eo105⟩ := Kd.S_slice HO346.out; subst eo105) | ((with_reducible refine gC 67 ?_); refine cL (some 24) Try.func67 #[.slice Ao105 t344.length co105, .int .i64 a1, .int .i64 a2] ?_; (with_reducible refine (spec_ObjectsOfBand.calls k _ _ t344 a1 a2 t347 _ ?side1 ?side2 A8.out).mono ?_); (case side1 => exact cS (Kd.S_reads' HO346.out).2.2); (case side2 => exact (Kd.S_reads' HO346.out).2.1); rintro e w106 ⟨v348, rfl, ho0, hb⟩; refine ⟨_, rfl, ?_⟩; obtain ⟨b349, HZ349, hz349⟩ := S_born ho0; have HL349 := Aside0.mk (show w.heap.size ≤ b349 from by rw [HZ349.out]; exact (below_size bS)); have HO349 := Aside0.mk (hz349); replace HO346 := Aside0.mk (S_oldB (by (with_reducible repeat (first | apply Kd.S_alloc | apply Kd.S_drewN | apply Kd.S_drew)); exact HO346.out) hb HZ349.out); replace HB := hB hb; (try clear hb); (try clear hb2); (try clear hk); (try clear hi); (try clear ho0)) | ((with_reducible refine gC 38 ?_); refine cL (some 26) Try.func38 #[.slice A0 l0.length c0] ?_; (with_reducible refine (laws_toObjectS.calls k _ _ l0 t350 _ ?side1 ?side2 A9.out).mono ?_); (case side1 => exact cS (Kd.C_below HR0.out HB.out)); (case side2 => exact HC0.out); rintro e w107 ⟨v351, rfl, ho0, hb⟩; refine ⟨_, rfl, ?_⟩; obtain ⟨b352, HZ352, hz352⟩ := S_born ho0; have HL352 := Aside0.mk (show w.heap.size ≤ b352 from by rw [HZ352.out]; exact (below_size bS)); have HO352 := Aside0.mk (hz352); replace HO346 := Aside0.mk (S_oldB (by (with_reducible repeat (first | apply Kd.S_alloc | apply Kd.S_drewN | apply Kd.S_drew)); exact HO346.out) hb HZ352.out); replace HO349 := Aside0.mk (S_oldB (by (with_reducible repeat (first | apply Kd.S_alloc | apply Kd.S_drewN | apply Kd.S_drew)); exact HO349.out) hb HZ352.out); replace HB := hB hb; (try clear hb); (try clear hb2); (try clear hk); (try clear hi); (try clear ho0); obtain ⟨Ao108, co108, eo108⟩ := Kd.S_slice HO352.out; subst eo108) | ((with_reducible refine gC 57 ?_); refine cL (some 30) Try.func57 #[.slice Ao108 t350.length co108, .int .i64 a1, .int .i64 a2] ?_; (with_reducible refine (impl_ObjectsOfBand.calls k _ _ t350 a1 a2 t353 _ ?side1 ?side2 A10.out).mono ?_); (case side1 => exact cS (Kd.S_reads' HO352.out).2.2); (case side2 => exact (Kd.S_reads' HO352.out).2.1); rintro e w109 ⟨v354, rfl, ho0, hb⟩; refine ⟨_, rfl, ?_⟩; obtain ⟨b355, HZ355, hz355⟩ := S_born ho0; have HL355 := Aside0.mk (show w.heap.size ≤ b355 from by rw [HZ355.out]; exact (below_size bS)); have HO355 := Aside0.mk (hz355); replace HO346 := Aside0.mk (S_oldB (by (with_reducible repeat (first | apply Kd.S_alloc | apply Kd.S_drewN | apply Kd.S_drew)); exact HO346.out) hb HZ355.out); replace HO349 := Aside0.mk (S_oldB (by (with_reducible repeat (first | apply Kd.S_alloc | apply Kd.S_drewN | apply Kd.S_drew)); exact HO349.out) hb HZ355.out); replace HO352 := Aside0.mk (S_oldB (by (with_reducible repeat (first | apply Kd.S_alloc | apply Kd.S_drewN | apply Kd.S_drew)); exact HO352.out) hb HZ355.out); replace HB := hB hb; (try clear hb); (try clear hb2); (try clear hk); (try clear hi); (try clear ho0); obtain ⟨Ao110, co110, eo110⟩ := Kd.S_slice HO355.out; subst eo110; obtain ⟨Ao111, co111, eo111⟩ := Kd.S_slice HO349.out; subst eo111) | ((with_reducible refine gC 39 ?_); refine cL (some 33) Try.func39 #[.slice Ao110 t353.length co110, .slice Ao111 t347.length co111] ?_; (with_reducible refine (laws_eqObjectS.calls k _ _ t353 _ _ t347 _ _ ?side1 ?side2 ?side3 ?side4 A11.out).mono ?_); (case side1 => exact cS (Kd.S_reads' HO355.out).2.2); (case side2 => exact (Kd.S_reads' HO355.out).2.1); (case side3 => exact cS (Kd.S_reads' HO349.out).2.2); (case side4 => exact (Kd.S_reads' HO349.out).2.1); rintro e w112 ⟨rfl, hb⟩; refine ⟨_, rfl, ?_⟩; replace HO346 := Aside0.mk (Kd.S_below (by (with_reducible repeat (first | apply Kd.S_alloc | apply Kd.S_drewN | apply Kd.S_drew)); exact HO346.out) hb); replace HO349 := Aside0.mk (Kd.S_below (by (with_reducible repeat (first | apply Kd.S_alloc | apply Kd.S_drewN | apply Kd.S_drew)); exact HO349.out) hb); replace HO352 := Aside0.mk (Kd.S_below (by (with_reducible repeat (first | apply Kd.S_alloc | apply Kd.S_drewN | apply Kd.S_drew)); exact HO352.out) hb); replace HO355 := Aside0.mk (Kd.S_below (by (with_reducible repeat (first | apply Kd.S_alloc | apply Kd.S_drewN | apply Kd.S_drew)); exact HO355.out) hb); replace HB := hB hb; (try clear hb); (try clear hb2); (try clear hk); (try clear hi)) | ((with_reducible refine gC 38 ?_); refine cL (some 37) Try.func38 #[.slice A0 l0.length c0] ?_; (with_reducible refine (laws_toObjectS.calls k _ _ l0 t357 _ ?side1 ?side2 A13.out).mono ?_); (case side1 => exact cS (Kd.C_below HR0.out HB.out)); (case side2 => exact HC0.out); rintro e w113 ⟨v358, rfl, ho0, hb⟩; refine ⟨_, rfl, ?_⟩; obtain ⟨b359, HZ359, hz359⟩ := S_born ho0; have HL359 := Aside0.mk (show w.heap.size ≤ b359 from by rw [HZ359.out]; exact (below_size bS)); have HO359 := Aside0.mk (hz359); replace HO346 := Aside0.mk (S_oldB (by (with_reducible repeat (first | apply Kd.S_alloc | apply Kd.S_drewN | apply Kd.S_drew)); exact HO346.out) hb HZ359.out); replace HO349 := Aside0.mk (S_oldB (by (with_reducible repeat (first | apply Kd.S_alloc | apply Kd.S_drewN | apply Kd.S_drew)); exact HO349.out) hb HZ359.out); replace HO352 := Aside0.mk (S_oldB (by (with_reducible repeat (first | apply Kd.S_alloc | apply Kd.S_drewN | apply Kd.S_drew)); exact HO352.out) hb HZ359.out); replace HO355 := Aside0.mk (S_oldB (by (with_reducible repeat (first | apply Kd.S_alloc | apply Kd.S_drewN | apply Kd.S_drew)); exact HO355.out) hb HZ359.out); replace HB := hB hb; (try clear hb); (try clear hb2); (try clear hk); (try clear hi); (try clear ho0); obtain ⟨Ao114, co114, eo114⟩ := Kd.S_slice HO359.out; subst eo114) | ((with_reducible refine gC 39 ?_); refine cL (some 38) Try.func39 #[.slice Ao108 t350.length co108, .slice Ao114 t357.length co114] ?_; (with_reducible refine (laws_eqObjectS.calls k _ _ t350 _ _ t357 _ _ ?side1 ?side2 ?side3 ?side4 A14.out).mono ?_); (case side1 => exact cS (Kd.S_reads' HO352.out).2.2); (case side2 => exact (Kd.S_reads' HO352.out).2.1); (case side3 => exact cS (Kd.S_reads' HO359.out).2.2); (case side4 => exact (Kd.S_reads' HO359.out).2.1); rintro e w115 ⟨rfl, hb⟩; refine ⟨_, rfl, ?_⟩; replace HO346 := Aside0.mk (Kd.S_below (by (with_reducible repeat (first | apply Kd.S_alloc | apply Kd.S_drewN | apply Kd.S_drew)); exact HO346.out) hb); replace HO349 := Aside0.mk (Kd.S_below (by (with_reducible repeat (first | apply Kd.S_alloc | apply Kd.S_drewN | apply Kd.S_drew)); exact HO349.out) hb); replace HO352 := Aside0.mk (Kd.S_below (by (with_reducible repeat (first | apply Kd.S_alloc | apply Kd.S_drewN | apply Kd.S_drew)); exact HO352.out) hb); replace HO355 := Aside0.mk (Kd.S_below (by (with_reducible repeat (first | apply Kd.S_alloc | apply Kd.S_drewN | apply Kd.S_drew)); exact HO355.out) hb); replace HO359 := Aside0.mk (Kd.S_below (by (with_reducible repeat (first | apply Kd.S_alloc | apply Kd.S_drewN | apply Kd.S_drew)); exact HO359.out) hb); replace HB := hB hb; (try clear hb); (try clear hb2); (try clear hk); (try clear hi)) | ((with_reducible refine gC 68 ?_); refine cL (some 42) Try.func68 #[.slice Ao108 t350.length co108, .int .i64 1] ?_; (with_reducible refine (laws_markObjectS.calls k (fun k_ => (w.heap.size ≤ k_ ∧ ∃ q_, q_ ∈ 41 :: k41.E ∧ ∃ c_, w115.heap[k_]? = some (.cells c_ q_ (0, 0))) ∧ b352 ≤ k_ ∧ k_ < b355 ∧ k_ < b359 ∧ True) (.slice Ao108 t350.length co108) t350 1 t361 t362 w _ ?side1 ?side2 A16.out).mono ?_); (case side1 => repeat (first | (with_reducible first | exact HB.out | apply below_alloc | apply pw_below_drewN | apply below_drew1) | exact HB.out)); (case side2 => (with_reducible repeat (first | apply Kd.S_alloc | apply Kd.S_drewN | apply Kd.S_drew)); exact Kd.S_lower (Kd.S_mono (Kd.S_bound HO352.out) (fun k_ h_ => ⟨⟨Nat.le_trans HL352.out h_.2.1, h_.2.2.2⟩, h_.2.1, h_.1.1.2, h_.1.2, trivial⟩)) HL352.out); rintro e w116 ⟨rfl, hy0, hb, hkp⟩; refine ⟨_, rfl, ?_⟩; replace HO346 := Aside0.mk (Kd.S_mono (ok' := fun k_ => k_ < b349 ∧ k_ < b352 ∧ k_ < b355 ∧ k_ < b359) (Kd.S_keptB ((S_not (fun k_ => (w.heap.size ≤ k_ ∧ ∃ q_, q_ ∈ 41 :: k41.E ∧ ∃ c_, w115.heap[k_]? = some (.cells c_ q_ (0, 0))) ∧ b352 ≤ k_ ∧ k_ < b355 ∧ k_ < b359 ∧ True) HO346.out (fun k_ h_ e_ => Nat.not_le.2 (h_.1.1.1.2) e_.2.1))) hkp (fun k_ hk_ hs_ => (hk_.2) hs_)) (fun k_ hk_ => ⟨hk_.1.1.1.1.1.2, hk_.1.1.1.1.2, hk_.1.1.1.2, hk_.1.1.2⟩)); replace HO349 := Aside0.mk (Kd.S_mono (ok' := fun k_ => k_ < b352 ∧ k_ < b355 ∧ k_ < b359) (Kd.S_keptB ((S_not (fun k_ => (w.heap.size ≤ k_ ∧ ∃ q_, q_ ∈ 41 :: k41.E ∧ ∃ c_, w115.heap[k_]? = some (.cells c_ q_ (0, 0))) ∧ b352 ≤ k_ ∧ k_ < b355 ∧ k_ < b359 ∧ True) HO349.out (fun k_ h_ e_ => Nat.not_le.2 (h_.1.1.1.2) e_.2.1))) hkp (fun k_ hk_ hs_ => (hk_.2) hs_)) (fun k_ hk_ => ⟨hk_.1.1.1.1.2, hk_.1.1.1.2, hk_.1.1.2⟩)); replace HO352 := Aside0.mk (Kd.S_mono (ok' := fun _ => True) hy0 (fun _ _ => trivial)); replace HO355 := Aside0.mk (Kd.S_mono (ok' := fun k_ => k_ < b359) (Kd.S_keptB ((S_not (fun k_ => (w.heap.size ≤ k_ ∧ ∃ q_, q_ ∈ 41 :: k41.E ∧ ∃ c_, w115.heap[k_]? = some (.cells c_ q_ (0, 0))) ∧ b352 ≤ k_ ∧ k_ < b355 ∧ k_ < b359 ∧ True) HO355.out (fun k_ h_ e_ => Nat.not_lt.2 h_.2.1 (e_.2.2.1)))) hkp (fun k_ hk_ hs_ => (hk_.2) hs_)) (fun k_ hk_ => hk_.1.1.2)); replace HO359 := Aside0.mk (Kd.S_mono (ok' := fun k_ => True) (Kd.S_keptB ((S_not (fun k_ => (w.heap.size ≤ k_ ∧ ∃ q_, q_ ∈ 41 :: k41.E ∧ ∃ c_, w115.heap[k_]? = some (.cells c_ q_ (0, 0))) ∧ b352 ≤ k_ ∧ k_ < b355 ∧ k_ < b359 ∧ True) HO359.out (fun k_ h_ e_ => Nat.not_lt.2 h_.2.1 (e_.2.2.2.1)))) hkp (fun k_ hk_ hs_ => (hk_.2) hs_)) (fun k_ hk_ => trivial)); replace HB := Aside0.mk (hb); (try clear hb); (try clear hkp); (try clear hy0)) | (go_at_call 39; (with_reducible refine (laws_eqObjectS.calls k _ _ t353 _ _ t347 _ _ ?side1 ?side2 ?side3 ?side4 A32.out).mono ?_); (case side1 => exact cS (Kd.S_reads' HO355.out).2.2); (case side2 => exact (Kd.S_reads' HO355.out).2.1); (case side3 => exact cS (Kd.S_reads' HO349.out).2.2); (case side4 => exact (Kd.S_reads' HO349.out).2.1); rintro e w117 ⟨rfl, hb⟩; replace HO346 := Aside0.mk (Kd.S_below (by (with_reducible repeat (first | apply Kd.S_alloc | apply Kd.S_drewN | apply Kd.S_drew)); exact HO346.out) hb); replace HO349 := Aside0.mk (Kd.S_below (by (with_reducible repeat (first | apply Kd.S_alloc | apply Kd.S_drewN | apply Kd.S_drew)); exact HO349.out) hb); replace HO352 := Aside0.mk (Kd.S_below (by (with_reducible repeat (first | apply Kd.S_alloc | apply Kd.S_drewN | apply Kd.S_drew)); exact HO352.out) hb); replace HO355 := Aside0.mk (Kd.S_below (by (with_reducible repeat (first | apply Kd.S_alloc | apply Kd.S_drewN | apply Kd.S_drew)); exact HO355.out) hb); replace HO359 := Aside0.mk (Kd.S_below (by (with_reducible repeat (first | apply Kd.S_alloc | apply Kd.S_drewN | apply Kd.S_drew)); exact HO359.out) hb); replace HB := hB hb; (try clear hb); (try clear hb2); (try clear hk); (try clear hi)) | ((with_reducible refine gC 68 ?_); refine cL (some 53) Try.func68 #[.slice Ao110 t353.length co110, .int .i64 1] ?_; (with_reducible refine (laws_markObjectS.calls k (fun k_ => (w.heap.size ≤ k_ ∧ ∃ q_, q_ ∈ 41 :: k41.E ∧ ∃ c_, w117.heap[k_]? = some (.cells c_ q_ (0, 0))) ∧ b355 ≤ k_ ∧ k_ < b359 ∧ True) (.slice Ao110 t353.length co110) t353 1 t364 t365 w _ ?side1 ?side2 A34.out).mono ?_); (case side1 => repeat (first | (with_reducible first | exact HB.out | apply below_alloc | apply pw_below_drewN | apply below_drew1) | exact HB.out)); (case side2 => (with_reducible repeat (first | apply Kd.S_alloc | apply Kd.S_drewN | apply Kd.S_drew)); exact Kd.S_lower (Kd.S_mono (Kd.S_bound HO355.out) (fun k_ h_ => ⟨⟨Nat.le_trans HL355.out h_.2.1, h_.2.2.2⟩, h_.2.1, h_.1, trivial⟩)) HL355.out); rintro e w118 ⟨rfl, hy0, hb, hkp⟩; refine ⟨_, rfl, ?_⟩; replace HO346 := Aside0.mk (Kd.S_mono (ok' := fun k_ => k_ < b349 ∧ k_ < b352 ∧ k_ < b355 ∧ k_ < b359) (Kd.S_keptB ((S_not (fun k_ => (w.heap.size ≤ k_ ∧ ∃ q_, q_ ∈ 41 :: k41.E ∧ ∃ c_, w117.heap[k_]? = some (.cells c_ q_ (0, 0))) ∧ b355 ≤ k_ ∧ k_ < b359 ∧ True) HO346.out (fun k_ h_ e_ => Nat.not_le.2 (h_.1.2.2.1) e_.2.1))) hkp (fun k_ hk_ hs_ => (hk_.2) hs_)) (fun k_ hk_ => ⟨hk_.1.1.1, hk_.1.1.2.1, hk_.1.1.2.2.1, hk_.1.1.2.2.2⟩)); replace HO349 := Aside0.mk (Kd.S_mono (ok' := fun k_ => k_ < b352 ∧ k_ < b355 ∧ k_ < b359) (Kd.S_keptB ((S_not (fun k_ => (w.heap.size ≤ k_ ∧ ∃ q_, q_ ∈ 41 :: k41.E ∧ ∃ c_, w117.heap[k_]? = some (.cells c_ q_ (0, 0))) ∧ b355 ≤ k_ ∧ k_ < b359 ∧ True) HO349.out (fun k_ h_ e_ => Nat.not_le.2 (h_.1.2.1) e_.2.1))) hkp (fun k_ hk_ hs_ => (hk_.2) hs_)) (fun k_ hk_ => ⟨hk_.1.1.1, hk_.1.1.2.1, hk_.1.1.2.2⟩)); replace HO355 := Aside0.mk (Kd.S_mono (ok' := fun _ => True) hy0 (fun _ _ => trivial)); replace HO359 := Aside0.mk (Kd.S_mono (ok' := fun k_ => True) (Kd.S_keptB ((S_not (fun k_ => (w.heap.size ≤ k_ ∧ ∃ q_, q_ ∈ 41 :: k41.E ∧ ∃ c_, w117.heap[k_]? = some (.cells c_ q_ (0, 0))) ∧ b355 ≤ k_ ∧ k_ < b359 ∧ True) HO359.out (fun k_ h_ e_ => Nat.not_lt.2 h_.2.1 (e_.2.2.1)))) hkp (fun k_ hk_ hs_ => (hk_.2) hs_)) (fun k_ hk_ => trivial)); replace HB := Aside0.mk (hb); clear HO352; (try clear hb); (try clear hkp); (try clear hy0)) | ((with_reducible refine gC 69 ?_); refine goesL_ (some 56) rfl rfl Try.func69 (by kernel_rfl) rfl #[.slice Ao110 t365.length co110, .int .i64 1] rfl (by (try simp only [List.map_toArray, List.map_cons, List.map_nil]); first | done | (rw [show t365.length = t353.length from (Kd.S_reads' HO355.out).1.symm] <;> rfl) | rfl | (simp only [List.length_drop, List.length_take]; rfl)) ?_; (with_reducible refine (laws_heldObjectS.calls k _ _ t365 1 t366 _ ?side1 ?side2 A35.out).mono ?_); (case side1 => exact cS (Kd.S_reads' HO355.out).2.2); (case side2 => rw [show t365.length = t353.length from (Kd.S_reads' HO355.out).1.symm]; exact (Kd.S_reads' HO355.out).2.1); rintro e w' ⟨rfl, ⟨nd, rfl⟩⟩; refine ⟨_, rfl, ?_⟩) | ((with_reducible refine gC 38 ?_); refine cL (some 63) Try.func38 #[.slice A0 l0.length c0] ?_; (with_reducible refine (laws_toObjectS.calls k _ _ l0 t367 _ ?side1 ?side2 A54.out).mono ?_); (case side1 => exact cS (Kd.C_below HR0.out bS)); (case side2 => exact HC0.out); rintro e w119 ⟨v368, rfl, ho0, hb⟩; refine ⟨_, rfl, ?_⟩; obtain ⟨b369, HZ369, hz369⟩ := S_born ho0; have HL369 := Aside0.mk (show w.heap.size ≤ b369 from by rw [HZ369.out]; exact (below_size bS)); have HO369 := Aside0.mk (hz369); replace HO346 := Aside0.mk (S_oldB (by (with_reducible repeat (first | apply Kd.S_alloc | apply Kd.S_drewN | apply Kd.S_drew)); exact HO346.out) hb HZ369.out); replace HO349 := Aside0.mk (S_oldB (by (with_reducible repeat (first | apply Kd.S_alloc | apply Kd.S_drewN | apply Kd.S_drew)); exact HO349.out) hb HZ369.out); replace HO355 := Aside0.mk (S_oldB (by (with_reducible repeat (first | apply Kd.S_alloc | apply Kd.S_drewN | apply Kd.S_drew)); exact HO355.out) hb HZ369.out); replace HO359 := Aside0.mk (S_oldB (by (with_reducible repeat (first | apply Kd.S_alloc | apply Kd.S_drewN | apply Kd.S_drew)); exact HO359.out) hb HZ369.out); replace HB := hB hb; (try clear hb); (try clear hb2); (try clear hk); (try clear hi); (try clear ho0); obtain ⟨Ao120, co120, eo120⟩ := Kd.S_slice HO369.out; subst eo120) | ((with_reducible refine gC 57 ?_); refine cL (some 66) Try.func57 #[.slice Ao120 t367.length co120, .int .i64 a1, .int .i64 a2] ?_; (with_reducible refine (impl_ObjectsOfBand.calls k _ _ t367 a1 a2 t370 _ ?side1 ?side2 A55.out).mono ?_); (case side1 => exact cS (Kd.S_reads' HO369.out).2.2); (case side2 => exact (Kd.S_reads' HO369.out).2.1); rintro e w121 ⟨v371, rfl, ho0, hb⟩; refine ⟨_, rfl, ?_⟩; obtain ⟨b372, HZ372, hz372⟩ := S_born ho0; have HL372 := Aside0.mk (show w.heap.size ≤ b372 from by rw [HZ372.out]; exact (below_size bS)); have HO372 := Aside0.mk (hz372); replace HO346 := Aside0.mk (S_oldB (by (with_reducible repeat (first | apply Kd.S_alloc | apply Kd.S_drewN | apply Kd.S_drew)); exact HO346.out) hb HZ372.out); replace HO349 := Aside0.mk (S_oldB (by (with_reducible repeat (first | apply Kd.S_alloc | apply Kd.S_drewN | apply Kd.S_drew)); exact HO349.out) hb HZ372.out); replace HO355 := Aside0.mk (S_oldB (by (with_reducible repeat (first | apply Kd.S_alloc | apply Kd.S_drewN | apply Kd.S_drew)); exact HO355.out) hb HZ372.out); replace HO359 := Aside0.mk (S_oldB (by (with_reducible repeat (first | apply Kd.S_alloc | apply Kd.S_drewN | apply Kd.S_drew)); exact HO359.out) hb HZ372.out); replace HO369 := Aside0.mk (S_oldB (by (with_reducible repeat (first | apply Kd.S_alloc | apply Kd.S_drewN | apply Kd.S_drew)); exact HO369.out) hb HZ372.out); replace HB := hB hb; (try clear hb); (try clear hb2); (try clear hk); (try clear hi); (try clear ho0); obtain ⟨Ao122, co122, eo122⟩ := Kd.S_slice HO372.out; subst eo122) | ((with_reducible refine gC 39 ?_); refine cL (some 69) Try.func39 #[.slice Ao122 t370.length co122, .slice Ao111 t347.length co111] ?_; (with_reducible refine (laws_eqObjectS.calls k _ _ t370 _ _ t347 _ _ ?side1 ?side2 ?side3 ?side4 A56.out).mono ?_); (case side1 => exact cS (Kd.S_reads' HO372.out).2.2); (case side2 => exact (Kd.S_reads' HO372.out).2.1); (case side3 => exact cS (Kd.S_reads' HO349.out).2.2); (case side4 => exact (Kd.S_reads' HO349.out).2.1); rintro e w123 ⟨rfl, hb⟩; refine ⟨_, rfl, ?_⟩; replace HO346 := Aside0.mk (Kd.S_below (by (with_reducible repeat (first | apply Kd.S_alloc | apply Kd.S_drewN | apply Kd.S_drew)); exact HO346.out) hb); replace HO349 := Aside0.mk (Kd.S_below (by (with_reducible repeat (first | apply Kd.S_alloc | apply Kd.S_drewN | apply Kd.S_drew)); exact HO349.out) hb); replace HO355 := Aside0.mk (Kd.S_below (by (with_reducible repeat (first | apply Kd.S_alloc | apply Kd.S_drewN | apply Kd.S_drew)); exact HO355.out) hb); replace HO359 := Aside0.mk (Kd.S_below (by (with_reducible repeat (first | apply Kd.S_alloc | apply Kd.S_drewN | apply Kd.S_drew)); exact HO359.out) hb); replace HO369 := Aside0.mk (Kd.S_below (by (with_reducible repeat (first | apply Kd.S_alloc | apply Kd.S_drewN | apply Kd.S_drew)); exact HO369.out) hb); replace HO372 := Aside0.mk (Kd.S_below (by (with_reducible repeat (first | apply Kd.S_alloc | apply Kd.S_drewN | apply Kd.S_drew)); exact HO372.out) hb); replace HB := hB hb; (try clear hb); (try clear hb2); (try clear hk); (try clear hi)) | ((with_reducible refine gC 69 ?_); refine goesL_ (some 73) rfl rfl Try.func69 (by kernel_rfl) rfl #[.slice Ao110 t365.length co110, .int .i64 1] rfl (by (try simp only [List.map_toArray, List.map_cons, List.map_nil]); first | done | (rw [show t365.length = t353.length from (Kd.S_reads' HO355.out).1.symm] <;> rfl) | rfl | (simp only [List.length_drop, List.length_take]; rfl)) ?_; (with_reducible refine (laws_heldObjectS.calls k _ _ t365 1 t374 _ ?side1 ?side2 A58.out).mono ?_); (case side1 => exact cS (Kd.S_reads' HO355.out).2.2); (case side2 => rw [show t365.length = t353.length from (Kd.S_reads' HO355.out).1.symm]; exact (Kd.S_reads' HO355.out).2.1); rintro e w' ⟨rfl, ⟨nd, rfl⟩⟩; refine ⟨_, rfl, ?_⟩))
  go_ret
  exact ⟨eS, bS⟩) : p := h
theorem laws_FnExactObjectsOfBand.calls (k : Nat) (A0 : Option Addr) (c0 : Nat) (l0 : List (S91)) (a1 : Int) (a2 : Int) (r : Bool) (w : World) (hr0 : Kd.C k91 w A0 l0.length l0) (hc0 : l0.length ≤ c0) (h : laws_FnExactObjectsOfBand.f k l0 a1 a2 = some r) :
    Calls Try.prog 11 #[.slice A0 l0.length c0, .int .i64 a1, .int .i64 a2] w fun e w' => e = .returned (.bool r) ∧ Below w.heap.size w w' := by
  have HR0 := Aside0.mk hr0
  have HC0 := Aside0.mk hc0
  clear hr0 hc0
  have HB := Aside0.mk (Below.refl w.heap.size w)
  have H : ((laws_szObjectS.f k l0 1048576).bind fun t343 => (if t343 < 0 then (some true) else ((laws_toObjectS.f k l0).bind fun t344 => ((spec_ObjectsOfBand.f k t344 a1 a2).bind fun t347 => ((laws_toObjectS.f k l0).bind fun t350 => ((impl_ObjectsOfBand.f k t350 a1 a2).bind fun t353 => ((laws_eqObjectS.f k t353 t347).bind fun t356 => (if t356 = true then ((laws_toObjectS.f k l0).bind fun t357 => ((laws_eqObjectS.f k t350 t357).bind fun t360 => (if t360 = true then ((laws_markObjectS.f k t350 1).bind fun bt361 => (if bt361.1 < 0 then (some false) else ((laws_eqObjectS.f k t353 t347).bind fun t363 => (if t363 = true then ((laws_markObjectS.f k t353 1).bind fun bt364 => ((laws_heldObjectS.f k bt364.2 1).bind fun t366 => (if t366 < 0 then (some false) else (if t366 = bt364.1 then ((laws_toObjectS.f k l0).bind fun t367 => ((impl_ObjectsOfBand.f k t367 a1 a2).bind fun t370 => ((laws_eqObjectS.f k t370 t347).bind fun t373 => (if t373 = true then ((laws_heldObjectS.f k bt364.2 1).bind fun t374 => (if t374 < 0 then (some false) else (if t374 = bt364.1 then (some true) else (some false)))) else (some false))))) else (some false))))) else (some false))))) else (some false)))) else (some false))))))))) = some r := h
  clear h
  replace H := bN H
  obtain ⟨t343, A4, H⟩ := H
  by_cases c5 : t343 < 0
  · rw [if_pos c5] at H
    have c5b0 : decide (t343 < 0) = true := decide_eq_true c5
    clear c5
    obtain rfl := Option.some.inj H
    exact laws_FnExactObjectsOfBand.lf0
  · rw [if_neg c5] at H
    have c5b0 : decide (t343 < 0) = false := decide_eq_false c5
    clear c5
    replace H := bN H
    obtain ⟨t344, A7, H⟩ := H
    replace H := bN H
    obtain ⟨t347, A8, H⟩ := H
    replace H := bN H
    obtain ⟨t350, A9, H⟩ := H
    replace H := bN H
    obtain ⟨t353, A10, H⟩ := H
    replace H := bN H
    obtain ⟨t356, A11, H⟩ := H
    by_cases c12 : t356 = true
    · subst c12
      rw [if_pos rfl] at H
      replace H := bN H
      obtain ⟨t357, A13, H⟩ := H
      replace H := bN H
      obtain ⟨t360, A14, H⟩ := H
      by_cases c15 : t360 = true
      · subst c15
        rw [if_pos rfl] at H
        replace H := bN H
        obtain ⟨⟨t361, t362⟩, A16, H⟩ := H
        by_cases c17 : t361 < 0
        · rw [if_pos c17] at H
          have c17b0 : decide (t361 < 0) = true := decide_eq_true c17
          clear c17
          obtain rfl := Option.some.inj H
          exact laws_FnExactObjectsOfBand.lf0
        · rw [if_neg c17] at H
          have c17b0 : decide (t361 < 0) = false := decide_eq_false c17
          clear c17
          replace H := bN H
          obtain ⟨t363, A32, H⟩ := H
          by_cases c33 : t363 = true
          · subst c33
            rw [if_pos rfl] at H
            replace H := bN H
            obtain ⟨⟨t364, t365⟩, A34, H⟩ := H
            replace H := bN H
            obtain ⟨t366, A35, H⟩ := H
            by_cases c36 : t366 < 0
            · rw [if_pos c36] at H
              have c36b0 : decide (t366 < 0) = true := decide_eq_true c36
              clear c36
              obtain rfl := Option.some.inj H
              exact laws_FnExactObjectsOfBand.lf0
            · rw [if_neg c36] at H
              have c36b0 : decide (t366 < 0) = false := decide_eq_false c36
              clear c36
              by_cases c53 : t366 = t364
              · rw [if_pos c53] at H
                have c53b0 : (t366 == t364) = true := beq_iff_eq.mpr c53
                have c53b1 : (t366 != t364) = false := bne_eq_false_iff_eq.mpr c53
                clear c53
                replace H := bN H
                obtain ⟨t367, A54, H⟩ := H
                replace H := bN H
                obtain ⟨t370, A55, H⟩ := H
                replace H := bN H
                obtain ⟨t373, A56, H⟩ := H
                by_cases c57 : t373 = true
                · subst c57
                  rw [if_pos rfl] at H
                  replace H := bN H
                  obtain ⟨t374, A58, H⟩ := H
                  by_cases c59 : t374 < 0
                  · rw [if_pos c59] at H
                    have c59b0 : decide (t374 < 0) = true := decide_eq_true c59
                    clear c59
                    obtain rfl := Option.some.inj H
                    exact laws_FnExactObjectsOfBand.lf0
                  · rw [if_neg c59] at H
                    have c59b0 : decide (t374 < 0) = false := decide_eq_false c59
                    clear c59
                    by_cases c81 : t374 = t364
                    · rw [if_pos c81] at H
                      have c81b0 : (t374 == t364) = true := beq_iff_eq.mpr c81
                      have c81b1 : (t374 != t364) = false := bne_eq_false_iff_eq.mpr c81
                      clear c81
                      obtain rfl := Option.some.inj H
                      exact laws_FnExactObjectsOfBand.lf0
                    · rw [if_neg c81] at H
                      have c81b0 : (t374 == t364) = false := beq_eq_false_iff_ne.mpr c81
                      have c81b1 : (t374 != t364) = true := bne_iff_ne.mpr c81
                      obtain rfl := Option.some.inj H
                      exact laws_FnExactObjectsOfBand.lf0
                · obtain rfl := Bool.eq_false_iff.mpr c57
                  rw [if_neg nF] at H
                  obtain rfl := Option.some.inj H
                  exact laws_FnExactObjectsOfBand.lf0
              · rw [if_neg c53] at H
                have c53b0 : (t366 == t364) = false := beq_eq_false_iff_ne.mpr c53
                have c53b1 : (t366 != t364) = true := bne_iff_ne.mpr c53
                obtain rfl := Option.some.inj H
                exact laws_FnExactObjectsOfBand.lf0
          · obtain rfl := Bool.eq_false_iff.mpr c33
            rw [if_neg nF] at H
            obtain rfl := Option.some.inj H
            exact laws_FnExactObjectsOfBand.lf0
      · obtain rfl := Bool.eq_false_iff.mpr c15
        rw [if_neg nF] at H
        obtain rfl := Option.some.inj H
        exact laws_FnExactObjectsOfBand.lf0
    · obtain rfl := Bool.eq_false_iff.mpr c12
      rw [if_neg nF] at H
      obtain rfl := Option.some.inj H
      exact laws_FnExactObjectsOfBand.lf0

end Go.Proofs.Ytimpejidlnjhlaa.QFnExactObjectsOfBand
