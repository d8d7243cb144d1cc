-- Made out of the translation by a program of this session (a changed copy of the print). Not trusted: Lean checks it.
import Derived.Test.YtigodjcnkgebaaaQFnExactRenderBandsx0
import Derived.Test.YtigodjcnkgebaaaQFnExactRenderBandsx7
import Derived.Test.YtigodjcnkgebaaaQFnExactRenderBandsx8
import Derived.Test.YtigodjcnkgebaaaQFnExactRenderBandsx9
import Derived.Test.YtigodjcnkgebaaaQFnExactRenderBandsx10
import Derived.Test.YtigodjcnkgebaaaQFnExactRenderBandsx16
namespace Go.Proofs.Ytigodjcnkgebaaa.QFnExactRenderBands
open Go.RowKit Go.Proofs.YtigodjcnkgebaaaW.PrintWords Go.Proofs.YtigodjcnkgebaaaW.PrintLast Go.Proofs.YtigodjcnkgebaaaW.PrintMore
attribute [local go_sem] max2_int min2_int max_two min_two max_three min_three max_four min_four   -- for this text's walks alone
set_option linter.unusedVariables false
set_option linter.unusedSimpArgs false
set_option maxHeartbeats 8000000
set_option maxRecDepth 100000

/-! ### laws_FnExactRenderBands: function 13 -/
def laws_FnExactRenderBands.f (k : Nat) (l0 : List (S38)) (a1 : Int) : Option (Bool) := (laws_szObjectS.f k l0 1048576).bind fun t553 => (if t553 < 0 then (some true) else ((laws_toObjectS.f k l0).bind fun t554 => ((spec_RenderBands.f k t554 a1).bind fun t557 => ((laws_toObjectS.f k l0).bind fun t560 => ((impl_RenderBands.f k t560 a1).bind fun t563 => ((laws_eqIntSS.f k t563 t557).bind fun t566 => (if t566 = true then ((laws_toObjectS.f k l0).bind fun t567 => ((laws_eqObjectS.f k t560 t567).bind fun t570 => (if t570 = true then ((laws_markObjectS.f k t560 1).bind fun bt571 => (if bt571.1 < 0 then (some false) else ((laws_eqIntSS.f k t563 t557).bind fun t573 => (if t573 = true then ((laws_markIntSS.f k t563 1).bind fun bt574 => ((laws_heldIntSS.f k bt574.2 1).bind fun t576 => (if t576 < 0 then (some false) else (if t576 = bt574.1 then ((laws_toObjectS.f k l0).bind fun t577 => ((impl_RenderBands.f k t577 a1).bind fun t580 => ((laws_eqIntSS.f k t580 t557).bind fun t583 => (if t583 = true then ((laws_heldIntSS.f k bt574.2 1).bind fun t584 => (if t584 < 0 then (some false) else (if t584 = bt574.1 then (some true) else (some false)))) else (some false))))) else (some false))))) else (some false))))) else (some false)))) else (some false))))))))
theorem laws_FnExactRenderBands.lf0 {p : Prop} (h : p := by
 go_enter Try.func13, Try.ntmps13
 go_wp2_with (first | ((with_reducible refine gC 39 ?_); refine cL (some 15) Try.func39 #[.slice A0 l0.length c0, .int .i64 1048576] ?_; (with_reducible refine (laws_szObjectS.calls k _ _ l0 1048576 t553 _ ?side1 ?side2 A3.out).mono ?_); (case side1 => repeat (first | exact HR0.out | (with_reducible refine Kd.C_alloc ?_ _) | (with_reducible refine Kd.C_drewN ?_ _) | (with_reducible refine Kd.C_drew ?_))); (case side2 => exact HC0.out); rintro e w30 ⟨rfl, hb⟩; refine ⟨_, rfl, ?_⟩; replace HB := hB hb; (try clear hb); (try clear hb2); (try clear hk); (try clear hi)) | ((with_reducible refine gC 41 ?_); refine cL (some 19) Try.func41 #[.slice A0 l0.length c0] ?_; (with_reducible refine (laws_toObjectS.calls k _ _ l0 t554 _ (cS (Kd.C_below HR0.out HB.out)) HC0.out A6.out).mono ?_); rintro e w31 ⟨v555, rfl, ho0, hb⟩; refine ⟨_, rfl, ?_⟩; obtain ⟨b556, HZ556, hz556⟩ := S_born ho0; have HL556 := Aside0.mk (show w.heap.size ≤ b556 from by rw [HZ556.out]; exact (below_size bS)); have HO556 := Aside0.mk (hz556); replace HB := hB hb; (try clear hb); (try clear hb2); (try clear hk); (try clear hi); (try clear ho0); obtain ⟨Ao32, co32, eo32⟩ := Kd.S_slice HO556.out; subst eo32) | ((with_reducible refine gC 65 ?_); refine cL (some 21) Try.func65 #[.slice Ao32 t554.length co32, .int .i64 a1] ?_; (with_reducible refine (spec_RenderBands.calls k _ _ t554 a1 t557 _ (cS (Kd.S_reads' HO556.out).2.2) ((Kd.S_reads' HO556.out).2.1) A7.out).mono ?_); rintro e w33 ⟨v558, rfl, ho0, hb⟩; refine ⟨_, rfl, ?_⟩; obtain ⟨b559, HZ559, hz559⟩ := S_born (Kd.S_mono (ok' := fun k_ => True) ho0 (fun _ hk_ => trivial)); have HL559 := Aside0.mk (show w.heap.size ≤ b559 from by rw [HZ559.out]; exact (below_size bS)); have HO559 := Aside0.mk (hz559); replace HO556 := Aside0.mk (S_oldB (sS HO556) hb HZ559.out); replace HB := hB hb; (try clear hb); (try clear hb2); (try clear hk); (try clear hi); (try clear ho0)) | ((with_reducible refine gC 41 ?_); refine cL (some 23) Try.func41 #[.slice A0 l0.length c0] ?_; (with_reducible refine (laws_toObjectS.calls k _ _ l0 t560 _ (cS (Kd.C_below HR0.out HB.out)) HC0.out A8.out).mono ?_); rintro e w34 ⟨v561, rfl, ho0, hb⟩; refine ⟨_, rfl, ?_⟩; obtain ⟨b562, HZ562, hz562⟩ := S_born ho0; have HL562 := Aside0.mk (show w.heap.size ≤ b562 from by rw [HZ562.out]; exact (below_size bS)); have HO562 := Aside0.mk (hz562); replace HO556 := Aside0.mk (S_oldB (sS HO556) hb HZ562.out); replace HO559 := Aside0.mk (S_oldB (sS HO559) hb HZ562.out); replace HB := hB hb; (try clear hb); (try clear hb2); (try clear hk); (try clear hi); (try clear ho0); obtain ⟨Ao35, co35, eo35⟩ := Kd.S_slice HO562.out; subst eo35) | ((with_reducible refine gC 19 ?_); refine cL (some 26) Try.func19 #[.slice Ao35 t560.length co35, .int .i64 a1] ?_; (with_reducible refine (impl_RenderBands.calls k _ _ t560 a1 t563 _ (cS (Kd.S_reads' HO562.out).2.2) ((Kd.S_reads' HO562.out).2.1) A9.out).mono ?_); rintro e w36 ⟨v564, rfl, ho0, hb⟩; refine ⟨_, rfl, ?_⟩; obtain ⟨b565, HZ565, hz565⟩ := S_born (Kd.S_mono (ok' := fun k_ => True) ho0 (fun _ hk_ => trivial)); have HL565 := Aside0.mk (show w.heap.size ≤ b565 from by rw [HZ565.out]; exact (below_size bS)); have HO565 := Aside0.mk (hz565); replace HO556 := Aside0.mk (S_oldB (sS HO556) hb HZ565.out); replace HO559 := Aside0.mk (S_oldB (sS HO559) hb HZ565.out); replace HO562 := Aside0.mk (S_oldB (sS HO562) hb HZ565.out); replace HB := hB hb; (try clear hb); (try clear hb2); (try clear hk); (try clear hi); (try clear ho0); obtain ⟨Ao37, co37, eo37⟩ := Kd.S_slice HO565.out; subst eo37; obtain ⟨Ao38, co38, eo38⟩ := Kd.S_slice HO559.out; subst eo38) | ((with_reducible refine gC 54 ?_); refine cL (some 29) Try.func54 #[.slice Ao37 t563.length co37, .slice Ao38 t557.length co38] ?_; (with_reducible refine (laws_eqIntSS.calls k _ _ t563 _ _ t557 _ _ (cS (Kd.S_reads' HO565.out).2.2) ((Kd.S_reads' HO565.out).2.1) (cS (Kd.S_reads' HO559.out).2.2) ((Kd.S_reads' HO559.out).2.1) A10.out).mono ?_); rintro e w' ⟨rfl, ⟨nd, rfl⟩⟩; refine ⟨_, rfl, ?_⟩) | ((with_reducible refine gC 41 ?_); refine cL (some 33) Try.func41 #[.slice A0 l0.length c0] ?_; (with_reducible refine (laws_toObjectS.calls k _ _ l0 t567 _ (cS (Kd.C_below HR0.out bS)) HC0.out A12.out).mono ?_); rintro e w39 ⟨v568, rfl, ho0, hb⟩; refine ⟨_, rfl, ?_⟩; obtain ⟨b569, HZ569, hz569⟩ := S_born ho0; have HL569 := Aside0.mk (show w.heap.size ≤ b569 from by rw [HZ569.out]; exact (below_size bS)); have HO569 := Aside0.mk (hz569); replace HO556 := Aside0.mk (S_oldB (sS HO556) hb HZ569.out); replace HO559 := Aside0.mk (S_oldB (sS HO559) hb HZ569.out); replace HO562 := Aside0.mk (S_oldB (sS HO562) hb HZ569.out); replace HO565 := Aside0.mk (S_oldB (sS HO565) hb HZ569.out); replace HB := hB hb; (try clear hb); (try clear hb2); (try clear hk); (try clear hi); (try clear ho0); obtain ⟨Ao40, co40, eo40⟩ := Kd.S_slice HO569.out; subst eo40) | ((with_reducible refine gC 43 ?_); refine cL (some 34) Try.func43 #[.slice Ao35 t560.length co35, .slice Ao40 t567.length co40] ?_; (with_reducible refine (laws_eqObjectS.calls k _ _ t560 _ _ t567 _ _ (cS (Kd.S_reads' HO562.out).2.2) ((Kd.S_reads' HO562.out).2.1) (cS (Kd.S_reads' HO569.out).2.2) ((Kd.S_reads' HO569.out).2.1) A13.out).mono ?_); rintro e w41 ⟨rfl, hb⟩; refine ⟨_, rfl, ?_⟩; replace HO556 := sB HO556 hb; replace HO559 := sB HO559 hb; replace HO562 := sB HO562 hb; replace HO565 := sB HO565 hb; replace HO569 := sB HO569 hb; replace HB := hB hb; (try clear hb); (try clear hb2); (try clear hk); (try clear hi)) | ((with_reducible refine gC 58 ?_); refine cL (some 38) Try.func58 #[.slice Ao35 t560.length co35, .int .i64 1] ?_; (with_reducible refine (laws_markObjectS.calls k (fun k_ => (w.heap.size ≤ k_ ∧ ∃ q_, q_ ∈ 45 :: k45.E ∧ ∃ c_, w41.heap[k_]? = some (.cells c_ q_ (0, 0))) ∧ b562 ≤ k_ ∧ k_ < b565 ∧ k_ < b569 ∧ True) (.slice Ao35 t560.length co35) t560 1 t571 t572 w _ ?side1 ?side2 A15.out).mono ?_); (case side1 => repeat (first | (with_reducible first | exact HB.out | apply below_alloc | apply pw_below_drewN | apply below_drew1) | exact HB.out)); (case side2 => (with_reducible repeat (first | apply Kd.S_alloc | apply Kd.S_drewN | apply Kd.S_drew)); exact Kd.S_lower (Kd.S_mono (Kd.S_bound HO562.out) (fun k_ h_ => ⟨⟨Nat.le_trans HL562.out h_.2.1, h_.2.2.2⟩, h_.2.1, h_.1.1.2, h_.1.2, trivial⟩)) HL562.out); rintro e w42 ⟨rfl, hy0, hb, hkp⟩; refine ⟨_, rfl, ?_⟩; replace HO556 := Aside0.mk (Kd.S_mono (ok' := fun k_ => k_ < b559 ∧ k_ < b562 ∧ k_ < b565 ∧ k_ < b569) (Kd.S_keptB ((S_not (fun k_ => (w.heap.size ≤ k_ ∧ ∃ q_, q_ ∈ 45 :: k45.E ∧ ∃ c_, w41.heap[k_]? = some (.cells c_ q_ (0, 0))) ∧ b562 ≤ k_ ∧ k_ < b565 ∧ k_ < b569 ∧ True) HO556.out (fun k_ h_ e_ => Nat.not_le.2 (h_.1.1.1.2) e_.2.1))) hkp (fun k_ hk_ hs_ => (hk_.2) hs_)) (fun k_ hk_ => ⟨hk_.1.1.1.1.1.2, hk_.1.1.1.1.2, hk_.1.1.1.2, hk_.1.1.2⟩)); replace HO559 := Aside0.mk (Kd.S_mono (ok' := fun k_ => k_ < b562 ∧ k_ < b565 ∧ k_ < b569) (Kd.S_keptB ((S_not (fun k_ => (w.heap.size ≤ k_ ∧ ∃ q_, q_ ∈ 45 :: k45.E ∧ ∃ c_, w41.heap[k_]? = some (.cells c_ q_ (0, 0))) ∧ b562 ≤ k_ ∧ k_ < b565 ∧ k_ < b569 ∧ True) HO559.out (fun k_ h_ e_ => Nat.not_le.2 (h_.1.1.1.2) e_.2.1))) hkp (fun k_ hk_ hs_ => (hk_.2) hs_)) (fun k_ hk_ => ⟨hk_.1.1.1.1.2, hk_.1.1.1.2, hk_.1.1.2⟩)); replace HO562 := Aside0.mk (Kd.S_mono (ok' := fun _ => True) hy0 (fun _ _ => trivial)); replace HO565 := Aside0.mk (Kd.S_mono (ok' := fun k_ => k_ < b569) (Kd.S_keptB ((S_not (fun k_ => (w.heap.size ≤ k_ ∧ ∃ q_, q_ ∈ 45 :: k45.E ∧ ∃ c_, w41.heap[k_]? = some (.cells c_ q_ (0, 0))) ∧ b562 ≤ k_ ∧ k_ < b565 ∧ k_ < b569 ∧ True) HO565.out (fun k_ h_ e_ => Nat.not_lt.2 h_.2.1 (e_.2.2.1)))) hkp (fun k_ hk_ hs_ => (hk_.2) hs_)) (fun k_ hk_ => hk_.1.1.2)); replace HO569 := Aside0.mk (Kd.S_mono (ok' := fun k_ => True) (Kd.S_keptB ((S_not (fun k_ => (w.heap.size ≤ k_ ∧ ∃ q_, q_ ∈ 45 :: k45.E ∧ ∃ c_, w41.heap[k_]? = some (.cells c_ q_ (0, 0))) ∧ b562 ≤ k_ ∧ k_ < b565 ∧ k_ < b569 ∧ True) HO569.out (fun k_ h_ e_ => Nat.not_lt.2 h_.2.1 (e_.2.2.2.1)))) hkp (fun k_ hk_ hs_ => (hk_.2) hs_)) (fun k_ hk_ => trivial)); replace HB := Aside0.mk (hb); (try clear hb); (try clear hkp); (try clear hy0)) | (go_at_call 54; (with_reducible refine (laws_eqIntSS.calls k _ _ t563 _ _ t557 _ _ (cS (Kd.S_reads' HO565.out).2.2) ((Kd.S_reads' HO565.out).2.1) (cS (Kd.S_reads' HO559.out).2.2) ((Kd.S_reads' HO559.out).2.1) A17.out).mono ?_); rintro e w' ⟨rfl, ⟨nd, rfl⟩⟩) | ((with_reducible refine gC 55 ?_); refine cL (some 49) Try.func55 #[.slice Ao37 t563.length co37, .int .i64 1] ?_; (with_reducible refine (laws_markIntSS.calls k (fun k_ => (w.heap.size ≤ k_ ∧ ∃ q_, q_ ∈ 71 :: (Kd.slice 3 (Kd.int .i64)).E ∧ ∃ c_, w42.heap[k_]? = some (.cells c_ q_ (0, 0))) ∧ b565 ≤ k_ ∧ k_ < b569 ∧ True) (.slice Ao37 t563.length co37) t563 1 t574 t575 w _ ?side1 ?side2 A19.out).mono ?_); (case side1 => repeat (first | (with_reducible first | exact HB.out | apply below_alloc | apply pw_below_drewN | apply below_drew1) | exact HB.out)); (case side2 => (with_reducible repeat (first | apply Kd.S_alloc | apply Kd.S_drewN | apply Kd.S_drew)); exact Kd.S_lower (Kd.S_mono (Kd.S_bound HO565.out) (fun k_ h_ => ⟨⟨Nat.le_trans HL565.out h_.2.1, h_.2.2.2⟩, h_.2.1, h_.1, trivial⟩)) HL565.out); rintro e w43 ⟨rfl, hy0, hb, hkp⟩; refine ⟨_, rfl, ?_⟩; replace HO556 := Aside0.mk (Kd.S_mono (ok' := fun k_ => k_ < b559 ∧ k_ < b562 ∧ k_ < b565 ∧ k_ < b569) (Kd.S_keptB ((S_not (fun k_ => (w.heap.size ≤ k_ ∧ ∃ q_, q_ ∈ 71 :: (Kd.slice 3 (Kd.int .i64)).E ∧ ∃ c_, w42.heap[k_]? = some (.cells c_ q_ (0, 0))) ∧ b565 ≤ k_ ∧ k_ < b569 ∧ True) HO556.out (fun k_ h_ e_ => Nat.not_le.2 (h_.1.2.2.1) e_.2.1))) hkp (fun k_ hk_ hs_ => (hk_.2) hs_)) (fun k_ hk_ => ⟨hk_.1.1.1, hk_.1.1.2.1, hk_.1.1.2.2.1, hk_.1.1.2.2.2⟩)); replace HO559 := Aside0.mk (Kd.S_mono (ok' := fun k_ => k_ < b562 ∧ k_ < b565 ∧ k_ < b569) (Kd.S_keptB ((S_not (fun k_ => (w.heap.size ≤ k_ ∧ ∃ q_, q_ ∈ 71 :: (Kd.slice 3 (Kd.int .i64)).E ∧ ∃ c_, w42.heap[k_]? = some (.cells c_ q_ (0, 0))) ∧ b565 ≤ k_ ∧ k_ < b569 ∧ True) HO559.out (fun k_ h_ e_ => Nat.not_le.2 (h_.1.2.1) e_.2.1))) hkp (fun k_ hk_ hs_ => (hk_.2) hs_)) (fun k_ hk_ => ⟨hk_.1.1.1, hk_.1.1.2.1, hk_.1.1.2.2⟩)); replace HO565 := Aside0.mk (Kd.S_mono (ok' := fun _ => True) hy0 (fun _ _ => trivial)); replace HO569 := Aside0.mk (Kd.S_mono (ok' := fun k_ => True) (Kd.S_keptB ((S_not (fun k_ => (w.heap.size ≤ k_ ∧ ∃ q_, q_ ∈ 71 :: (Kd.slice 3 (Kd.int .i64)).E ∧ ∃ c_, w42.heap[k_]? = some (.cells c_ q_ (0, 0))) ∧ b565 ≤ k_ ∧ k_ < b569 ∧ True) HO569.out (fun k_ h_ e_ => Nat.not_lt.2 h_.2.1 (e_.2.2.1)))) hkp (fun k_ hk_ hs_ => (hk_.2) hs_)) (fun k_ hk_ => trivial)); replace HB := Aside0.mk (hb); clear HO562; (try clear hb); (try clear hkp); (try clear hy0)) | ((with_reducible refine gC 56 ?_); refine goesL_ (some 52) rfl rfl Try.func56 (by kernel_rfl) rfl #[.slice Ao37 t575.length co37, .int .i64 1] rfl (by (try simp only [List.map_toArray, List.map_cons, List.map_nil]); first | done | (rw [show t575.length = t563.length from (Kd.S_reads' HO565.out).1.symm] <;> rfl) | rfl | (simp only [List.length_drop, List.length_take]; rfl)) ?_; (with_reducible refine (laws_heldIntSS.calls k _ _ t575 1 t576 _ ?side1 ?side2 A20.out).mono ?_); (case side1 => exact cS (Kd.S_reads' HO565.out).2.2); (case side2 => rw [show t575.length = t563.length from (Kd.S_reads' HO565.out).1.symm]; exact (Kd.S_reads' HO565.out).2.1); rintro e w' ⟨rfl, ⟨nd, rfl⟩⟩; refine ⟨_, rfl, ?_⟩) | ((with_reducible refine gC 41 ?_); refine cL (some 59) Try.func41 #[.slice A0 l0.length c0] ?_; (with_reducible refine (laws_toObjectS.calls k _ _ l0 t577 _ (cS (Kd.C_below HR0.out bS)) HC0.out A23.out).mono ?_); rintro e w44 ⟨v578, rfl, ho0, hb⟩; refine ⟨_, rfl, ?_⟩; obtain ⟨b579, HZ579, hz579⟩ := S_born ho0; have HL579 := Aside0.mk (show w.heap.size ≤ b579 from by rw [HZ579.out]; exact (below_size bS)); have HO579 := Aside0.mk (hz579); replace HO556 := Aside0.mk (S_oldB (sS HO556) hb HZ579.out); replace HO559 := Aside0.mk (S_oldB (sS HO559) hb HZ579.out); replace HO565 := Aside0.mk (S_oldB (sS HO565) hb HZ579.out); replace HO569 := Aside0.mk (S_oldB (sS HO569) hb HZ579.out); replace HB := hB hb; (try clear hb); (try clear hb2); (try clear hk); (try clear hi); (try clear ho0); obtain ⟨Ao45, co45, eo45⟩ := Kd.S_slice HO579.out; subst eo45) | ((with_reducible refine gC 19 ?_); refine cL (some 61) Try.func19 #[.slice Ao45 t577.length co45, .int .i64 a1] ?_; (with_reducible refine (impl_RenderBands.calls k _ _ t577 a1 t580 _ (cS (Kd.S_reads' HO579.out).2.2) ((Kd.S_reads' HO579.out).2.1) A24.out).mono ?_); rintro e w46 ⟨v581, rfl, ho0, hb⟩; refine ⟨_, rfl, ?_⟩; obtain ⟨b582, HZ582, hz582⟩ := S_born (Kd.S_mono (ok' := fun k_ => True) ho0 (fun _ hk_ => trivial)); have HL582 := Aside0.mk (show w.heap.size ≤ b582 from by rw [HZ582.out]; exact (below_size bS)); have HO582 := Aside0.mk (hz582); replace HO556 := Aside0.mk (S_oldB (sS HO556) hb HZ582.out); replace HO559 := Aside0.mk (S_oldB (sS HO559) hb HZ582.out); replace HO565 := Aside0.mk (S_oldB (sS HO565) hb HZ582.out); replace HO569 := Aside0.mk (S_oldB (sS HO569) hb HZ582.out); replace HO579 := Aside0.mk (S_oldB (sS HO579) hb HZ582.out); replace HB := hB hb; (try clear hb); (try clear hb2); (try clear hk); (try clear hi); (try clear ho0); obtain ⟨Ao47, co47, eo47⟩ := Kd.S_slice HO582.out; subst eo47) | ((with_reducible refine gC 54 ?_); refine cL (some 64) Try.func54 #[.slice Ao47 t580.length co47, .slice Ao38 t557.length co38] ?_; (with_reducible refine (laws_eqIntSS.calls k _ _ t580 _ _ t557 _ _ (cS (Kd.S_reads' HO582.out).2.2) ((Kd.S_reads' HO582.out).2.1) (cS (Kd.S_reads' HO559.out).2.2) ((Kd.S_reads' HO559.out).2.1) A25.out).mono ?_); rintro e w' ⟨rfl, ⟨nd, rfl⟩⟩; refine ⟨_, rfl, ?_⟩) | ((with_reducible refine gC 56 ?_); refine goesL_ (some 68) rfl rfl Try.func56 (by kernel_rfl) rfl #[.slice Ao37 t575.length co37, .int .i64 1] rfl (by (try simp only [List.map_toArray, List.map_cons, List.map_nil]); first | done | (rw [show t575.length = t563.length from (Kd.S_reads' HO565.out).1.symm] <;> rfl) | rfl | (simp only [List.length_drop, List.length_take]; rfl)) ?_; (with_reducible refine (laws_heldIntSS.calls k _ _ t575 1 t584 _ ?side1 ?side2 A27.out).mono ?_); (case side1 => exact cS (Kd.S_reads' HO565.out).2.2); (case side2 => rw [show t575.length = t563.length from (Kd.S_reads' HO565.out).1.symm]; exact (Kd.S_reads' HO565.out).2.1); rintro e w' ⟨rfl, ⟨nd, rfl⟩⟩; refine ⟨_, rfl, ?_⟩))
 go_ret
 exact ⟨eS, bS⟩) : p := h
theorem laws_FnExactRenderBands.calls (k : Nat) (A0 : Option Addr) (c0 : Nat) (l0 : List (S38)) (a1 : Int) (r : Bool) (w : World) (hr0 : Kd.C k38 w A0 l0.length l0) (hc0 : l0.length ≤ c0) (h : laws_FnExactRenderBands.f k l0 a1 = some r) (hT : r = true) :
  Calls Try.prog 13 #[.slice A0 l0.length c0, .int .i64 a1] w fun e w' => e = .returned (.bool r) ∧ Below w.heap.size w w' := by
 have HR0 := Aside0.mk hr0
 have HC0 := Aside0.mk hc0
 clear hr0 hc0
 have HB := Aside0.mk (Below.refl w.heap.size w)
 have H : ((laws_szObjectS.f k l0 1048576).bind fun t553 => (if t553 < 0 then (some true) else ((laws_toObjectS.f k l0).bind fun t554 => ((spec_RenderBands.f k t554 a1).bind fun t557 => ((laws_toObjectS.f k l0).bind fun t560 => ((impl_RenderBands.f k t560 a1).bind fun t563 => ((laws_eqIntSS.f k t563 t557).bind fun t566 => (if t566 = true then ((laws_toObjectS.f k l0).bind fun t567 => ((laws_eqObjectS.f k t560 t567).bind fun t570 => (if t570 = true then ((laws_markObjectS.f k t560 1).bind fun bt571 => (if bt571.1 < 0 then (some false) else ((laws_eqIntSS.f k t563 t557).bind fun t573 => (if t573 = true then ((laws_markIntSS.f k t563 1).bind fun bt574 => ((laws_heldIntSS.f k bt574.2 1).bind fun t576 => (if t576 < 0 then (some false) else (if t576 = bt574.1 then ((laws_toObjectS.f k l0).bind fun t577 => ((impl_RenderBands.f k t577 a1).bind fun t580 => ((laws_eqIntSS.f k t580 t557).bind fun t583 => (if t583 = true then ((laws_heldIntSS.f k bt574.2 1).bind fun t584 => (if t584 < 0 then (some false) else (if t584 = bt574.1 then (some true) else (some false)))) else (some false))))) else (some false))))) else (some false))))) else (some false)))) else (some false))))))))) = some r := h
 clear h
 replace H := bN H
 obtain ⟨t553, A3, H⟩ := H
 rcases iD H with ⟨c4b0, H⟩ | ⟨c4b0, H⟩
 ·obtain rfl := Option.some.inj H
  (try clear hT)
  exact laws_FnExactRenderBands.lf0
 ·replace H := bN H
  obtain ⟨t554, A6, H⟩ := H
  replace H := bN H
  obtain ⟨t557, A7, H⟩ := H
  replace H := bN H
  obtain ⟨t560, A8, H⟩ := H
  replace H := bN H
  obtain ⟨t563, A9, H⟩ := H
  replace H := bN H
  obtain ⟨t566, A10, H⟩ := H
  by_cases c11 : t566 = true
  ·subst c11
   rw [if_pos rfl] at H
   replace H := bN H
   obtain ⟨t567, A12, H⟩ := H
   replace H := bN H
   obtain ⟨t570, A13, H⟩ := H
   by_cases c14 : t570 = true
   ·subst c14
    rw [if_pos rfl] at H
    replace H := bN H
    obtain ⟨⟨t571, t572⟩, A15, H⟩ := H
    by_cases c16 : t571 < 0
    ·rw [if_pos c16] at H; exact absurd ((Option.some.inj H).trans hT) (by decide)
    ·rw [if_neg c16] at H
     have c16b0 : decide (t571 < 0) = false := decide_eq_false c16
     clear c16
     replace H := bN H
     obtain ⟨t573, A17, H⟩ := H
     by_cases c18 : t573 = true
     ·subst c18
      rw [if_pos rfl] at H
      replace H := bN H
      obtain ⟨⟨t574, t575⟩, A19, H⟩ := H
      replace H := bN H
      obtain ⟨t576, A20, H⟩ := H
      by_cases c21 : t576 < 0
      ·rw [if_pos c21] at H; exact absurd ((Option.some.inj H).trans hT) (by decide)
      ·rw [if_neg c21] at H
       have c21b0 : decide (t576 < 0) = false := decide_eq_false c21
       clear c21
       by_cases c22 : t576 = t574
       ·rw [if_pos c22] at H
        have c22b0 : (t576 == t574) = true := beq_iff_eq.mpr c22
        have c22b1 : (t576 != t574) = false := bne_eq_false_iff_eq.mpr c22
        clear c22
        replace H := bN H
        obtain ⟨t577, A23, H⟩ := H
        replace H := bN H
        obtain ⟨t580, A24, H⟩ := H
        replace H := bN H
        obtain ⟨t583, A25, H⟩ := H
        by_cases c26 : t583 = true
        ·subst c26
         rw [if_pos rfl] at H
         replace H := bN H
         obtain ⟨t584, A27, H⟩ := H
         by_cases c28 : t584 < 0
         ·rw [if_pos c28] at H; exact absurd ((Option.some.inj H).trans hT) (by decide)
         ·rw [if_neg c28] at H
          have c28b0 : decide (t584 < 0) = false := decide_eq_false c28
          clear c28
          by_cases c29 : t584 = t574
          ·rw [if_pos c29] at H
           have c29b0 : (t584 == t574) = true := beq_iff_eq.mpr c29
           have c29b1 : (t584 != t574) = false := bne_eq_false_iff_eq.mpr c29
           clear c29
           obtain rfl := Option.some.inj H
           (try clear hT)
           exact laws_FnExactRenderBands.lf0
          ·rw [if_neg c29] at H; exact absurd ((Option.some.inj H).trans hT) (by decide)
        ·obtain rfl := Bool.eq_false_iff.mpr c26
         rw [if_neg nF] at H
         exact absurd ((Option.some.inj H).trans hT) (by decide)
       ·rw [if_neg c22] at H; exact absurd ((Option.some.inj H).trans hT) (by decide)
     ·obtain rfl := Bool.eq_false_iff.mpr c18
      rw [if_neg nF] at H
      exact absurd ((Option.some.inj H).trans hT) (by decide)
   ·obtain rfl := Bool.eq_false_iff.mpr c14
    rw [if_neg nF] at H
    exact absurd ((Option.some.inj H).trans hT) (by decide)
  ·obtain rfl := Bool.eq_false_iff.mpr c11
   rw [if_neg nF] at H
   exact absurd ((Option.some.inj H).trans hT) (by decide)

end Go.Proofs.Ytigodjcnkgebaaa.QFnExactRenderBands
