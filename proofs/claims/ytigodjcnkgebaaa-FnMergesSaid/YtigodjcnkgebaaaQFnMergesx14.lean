-- Made out of the translation by a program of this session (a changed copy of the print). Not trusted: Lean checks it.
import Derived.Test.YtigodjcnkgebaaaQFnMergesx0
import Derived.Test.YtigodjcnkgebaaaQFnMergesx2
import Derived.Test.YtigodjcnkgebaaaQFnMergesx3
import Derived.Test.YtigodjcnkgebaaaQFnMergesx4
import Derived.Test.YtigodjcnkgebaaaQFnMergesx13
namespace Go.Proofs.Ytigodjcnkgebaaa.QFnMerges
open Go.RowKit Go.Proofs.YtigodjcnkgebaaaW.PrintWords Go.Proofs.YtigodjcnkgebaaaW.PrintLast Go.Proofs.YtigodjcnkgebaaaW.PrintMore
attribute [local go_sem] max2_int min2_int max_two min_two max_three min_three max_four min_four   -- for this text's walks alone
set_option linter.unusedVariables false
set_option linter.unusedSimpArgs false
set_option maxHeartbeats 8000000
set_option maxRecDepth 100000

/-! ### spec_l13Band: function 132 -/
def spec_l13Band.l0 : Nat → Int → Int → List Int → Int → Int → Int → Int → List (List Int) → List (S45) → Option (Int × Int × (List (List Int)) × (List (S45)) × Int × Int)
 | 0, _, _, _, _, _, _, _, _, _ => none
 | k + 1, x6, x7, x1000, x1001, x1002, x576000, x576001, x576002, x576003 => if x7 < x6 then ((spec_l10Object.f k x1000 x1001 x1002).bind fun bt579 => ((spec_AddToBand.f k x576000 x576001 x576002 x576003 bt579.1 bt579.2.1 bt579.2.2.1 bt579.2.2.2.1 bt579.2.2.2.2.1 bt579.2.2.2.2.2.1).bind fun bt589 => (spec_l13Band.l0 k x6 (wrap64 (x7 + 1)) x1000 bt579.2.2.2.2.2.2.1 bt579.2.2.2.2.2.2.2 bt589.1 bt589.2.1 bt589.2.2.1 bt589.2.2.2.1))) else (some (x576000, x576001, x576002, x576003, x1001, x1002))
def spec_l13Band.f (k : Nat) (s0_0 : List Int) (s0_1 : Int) (s0_2 : Int) : Option (Int × Int × (List (List Int)) × (List (S45)) × Int × Int) := (spec_l12Height.f s0_0 s0_1 s0_2).bind fun bt559 => ((spec_CountBands.f bt559.1).bind fun t562 => ((spec_l01Below.f s0_0 bt559.2.1 bt559.2.2 t562).bind fun bt563 => ((spec_NewBand.f k bt559.1 bt563.1).bind fun bt566 => ((spec_l01Below.f s0_0 bt563.2.1 bt563.2.2 14).bind fun bt576 => (spec_l13Band.l0 k bt576.1 0 s0_0 bt576.2.1 bt576.2.2 bt566.1 bt566.2.1 bt566.2.2.1 bt566.2.2.2.1)))))
def spec_l13Band.T7 : Bool × List (List Nat × List Nat) := (true, [([], []), ([], []), ([1], [1]), ([0, 2, 2], [0, 2]), ([3], [3]), ([4], [4]), ([4], [4]), ([5, 3, 0, 1, 2, 3, 4, 5], [5])])
def spec_l13Band.B7 : List Nat := [0, 0, 2, 7, 15, 31, 31, 63]
theorem spec_l13Band.tab7 : rtab .any (opsOf Try.f132 7) = spec_l13Band.T7 := by kernel_rfl
theorem spec_l13Band.bits7 : waitsOk spec_l13Band.T7.2 spec_l13Band.B7 = true := by kernel_rfl
theorem spec_l13Band.calls (k : Nat) (g : Nat) (s0_0 : List Int) (s0_1 : Int) (s0_2 : Int) (r1 : Int) (r2 : Int) (r3 : List (List Int)) (r4 : List (S45)) (r5 : Int) (r6 : Int) (w0 w : World) (hI : IsS161 w0 w g s0_0 s0_1 s0_2) (hB : Below w0.heap.size w0 w) (h : spec_l13Band.f k s0_0 s0_1 s0_2 = some (r1, r2, r3, r4, r5, r6)) :
  Calls Try.prog 132 #[.pointer (some ⟨g, 0, none⟩)] w fun e w' => ∃ v2_ v3_ : Value, e = .returned (.agg #[.int .i64 r1, .int .i64 r2, v2_, v3_]) ∧ Kd.S (Kd.slice 3 (Kd.int .i64)) 71 w' w.heap.size (fun _ => True) v2_ r3 ∧ Kd.S k45 45 w' w.heap.size (fun _ => True) v3_ r4 ∧ IsS161 w0 w' g s0_0 r5 r6 ∧ Below w0.heap.size w0 w' ∧ KeepBut w w' g none := by
 have hu58 := Try.underlying58
 have HI0 := Aside0.mk hI
 have HK := Aside0.mk (KeepBut.refl w g none)
 have HL := Aside0.mk hB.size
 clear hI
 have HW0 := Aside0.mk hB.size
 have HB := Aside0.mk hB
 clear hB
 have H : ((spec_l12Height.f s0_0 s0_1 s0_2).bind fun bt559 => ((spec_CountBands.f bt559.1).bind fun t562 => ((spec_l01Below.f s0_0 bt559.2.1 bt559.2.2 t562).bind fun bt563 => ((spec_NewBand.f k bt559.1 bt563.1).bind fun bt566 => ((spec_l01Below.f s0_0 bt563.2.1 bt563.2.2 14).bind fun bt576 => (spec_l13Band.l0 k bt576.1 0 s0_0 bt576.2.1 bt576.2.2 bt566.1 bt566.2.1 bt566.2.2.1 bt566.2.2.2.1)))))) = some (r1, r2, r3, r4, r5, r6) := h
 clear h
 replace H := bN H
 obtain ⟨⟨t559, t560, t561⟩, A2, H⟩ := H
 replace H := bN H
 obtain ⟨t562, A3, H⟩ := H
 replace H := bN H
 obtain ⟨⟨t563, t564, t565⟩, A4, H⟩ := H
 replace H := bN H
 obtain ⟨⟨t566, t567, t568, t571, t574⟩, A5, H⟩ := H
 replace H := bN H
 obtain ⟨⟨t576, t577, t578⟩, A6, H⟩ := H
 have H' := Aside0.mk H
 clear H
 go_enter Try.func132, Try.ntmps132
 go_wp2_with (first | ((with_reducible refine gD 2 ?_); refine bxE #[.int .i64 0, .int .i64 0, .slice none 0 0, .slice none 0 0] 58 ?_; intro gb558 hg w7 BK558 hb; have GW558 := Aside0.mk ((by rw [hg]; exact (keep_size (w := w) (g := g) (row := none) (by repeat (first | (with_reducible first | exact HK.out | apply KeepBut.set_ | apply keep_drewN | apply keep_drew | apply keep_alloc) | exact HK.out))) : w.heap.size ≤ gb558)); have GE558 := Aside0.mk ((Nat.le_trans HW0.out (by rw [hg]; exact (keep_size (w := w) (g := g) (row := none) (by repeat (first | (with_reducible first | exact HK.out | apply KeepBut.set_ | apply keep_drewN | apply keep_drew | apply keep_alloc) | exact HK.out))) : w.heap.size ≤ gb558) : w0.heap.size ≤ gb558)); have NB0_558 := Aside0.mk ((by rw [hg]; exact Nat.ne_of_lt (IsS161.lt (show IsS161 w0 _ g s0_0 s0_1 s0_2 from by repeat (first | (with_reducible first | exact HI0.out | apply IsS161.alloc | apply IsS161.drewN | apply IsS161.drew | apply IsS161.set_1 | apply IsS161.set_2) | exact HI0.out))) : g ≠ gb558)); have NB558_0 := Aside0.mk ((by rw [hg]; exact Nat.ne_of_gt (IsS161.lt (show IsS161 w0 _ g s0_0 s0_1 s0_2 from by repeat (first | (with_reducible first | exact HI0.out | apply IsS161.alloc | apply IsS161.drewN | apply IsS161.drew | apply IsS161.set_1 | apply IsS161.set_2) | exact HI0.out))) : gb558 ≠ g)); replace HK := Aside0.mk (KeepBut.trans (by repeat (first | (with_reducible first | exact HK.out | apply KeepBut.set_ | apply keep_drewN | apply keep_drew | apply keep_alloc) | exact HK.out)) (KeepBut.of_below hb g none) (.inl rfl)); replace HB := Aside0.mk (below_step (by repeat (first | (with_reducible first | exact HB.out | apply below_alloc | apply pw_below_drewN | apply below_drew1 | refine below_set ?_ (IsS161.ge HI0.out)) | exact HB.out)) hb); replace HI0 := Aside0.mk (IsS161.below (by repeat (first | (with_reducible first | exact HI0.out | apply IsS161.alloc | apply IsS161.drewN | apply IsS161.drew | apply IsS161.set_1 | apply IsS161.set_2) | exact HI0.out)) hb); clear hb hg) | ((with_reducible refine gC 72 ?_); refine cL (some 9) Try.func72 #[.pointer (some ⟨g, 0, none⟩)] ?_; (with_reducible refine (spec_l12Height.calls g s0_0 s0_1 s0_2 t559 t560 t561 w0 _ ?side1 ?side2 A2.out).mono ?_); (case side1 => repeat (first | (with_reducible first | exact HI0.out | apply IsS161.alloc | apply IsS161.drewN | apply IsS161.drew | apply IsS161.set_1 | apply IsS161.set_2 | refine IsS161.far ?_ NB0_558.out _) | exact HI0.out)); (case side2 => repeat (first | (with_reducible first | exact HB.out | apply below_alloc | apply pw_below_drewN | apply below_drew1 | refine below_set ?_ (IsS161.ge HI0.out) | refine below_set ?_ GE558.out) | exact HB.out)); rintro e w8 ⟨rfl, hi, hb, hk⟩; refine ⟨_, rfl, ?_⟩; replace BK558 := Aside0.mk (KeepBut.blk hk (g' := gb558) kS NB558_0.out (by simp)); replace HK := Aside0.mk (KeepBut.trans (by repeat (first | (with_reducible first | exact HK.out | apply KeepBut.set_ | apply keep_drewN | apply keep_drew | apply keep_alloc | refine keep_far ?_ GW558.out _) | exact HK.out)) hk (.inl rfl)); replace HB := Aside0.mk (hb); replace HI0 := Aside0.mk (hi); (try clear hb); (try clear hb2); (try clear hk); (try clear hi)) | ((with_reducible refine gC 67 ?_); refine cL (some 14) Try.func67 #[.int .i64 t559] ?_; (with_reducible refine (spec_CountBands.calls t559 t562 _ A3.out).mono ?_); rintro e w' ⟨rfl, ⟨nd, rfl⟩⟩; refine ⟨_, rfl, ?_⟩; (try (rw [drewN_self w8]; generalize hq_ : World.drewN w8 _ = w8; replace BK558 : Aside0 (w8.heap[gb558]? = some (.cells #[.int .i64 0, .int .i64 0, .slice none 0 0, .slice none 0 0] 58 (0, 0))) := ⟨by rw [← hq_]; exact kS⟩; replace HK : Aside0 (KeepBut w w8 g none) := ⟨by rw [← hq_]; exact (by repeat (first | (with_reducible first | exact HK.out | apply KeepBut.set_ | apply keep_drewN | apply keep_drew | apply keep_alloc | refine keep_far ?_ GW558.out _) | exact HK.out))⟩; replace HB : Aside0 (Below w0.heap.size w0 w8) := ⟨by rw [← hq_]; exact (by repeat (first | (with_reducible first | exact HB.out | apply below_alloc | apply pw_below_drewN | apply below_drew1 | refine below_set ?_ (IsS161.ge HI0.out) | refine below_set ?_ GE558.out) | exact HB.out))⟩; replace HI0 : Aside0 (IsS161 w0 w8 g s0_0 t560 t561) := ⟨by rw [← hq_]; exact (by repeat (first | (with_reducible first | exact HI0.out | apply IsS161.alloc | apply IsS161.drewN | apply IsS161.drew | apply IsS161.set_1 | apply IsS161.set_2 | refine IsS161.far ?_ NB0_558.out _) | exact HI0.out))⟩; clear hq_))) | ((with_reducible refine gC 136 ?_); refine cL (some 15) Try.func136 #[.pointer (some ⟨g, 0, none⟩), .int .i64 t562] ?_; (with_reducible refine (spec_l01Below.calls g s0_0 t560 t561 t562 t563 t564 t565 w0 _ ?side1 ?side2 A4.out).mono ?_); (case side1 => repeat (first | (with_reducible first | exact HI0.out | apply IsS161.alloc | apply IsS161.drewN | apply IsS161.drew | apply IsS161.set_1 | apply IsS161.set_2 | refine IsS161.far ?_ NB0_558.out _) | exact HI0.out)); (case side2 => repeat (first | (with_reducible first | exact HB.out | apply below_alloc | apply pw_below_drewN | apply below_drew1 | refine below_set ?_ (IsS161.ge HI0.out) | refine below_set ?_ GE558.out) | exact HB.out)); rintro e w9 ⟨rfl, hi, hb, hk⟩; refine ⟨_, rfl, ?_⟩; replace BK558 := Aside0.mk (KeepBut.blk hk (g' := gb558) kS NB558_0.out (by simp)); replace HK := Aside0.mk (KeepBut.trans (by repeat (first | (with_reducible first | exact HK.out | apply KeepBut.set_ | apply keep_drewN | apply keep_drew | apply keep_alloc | refine keep_far ?_ GW558.out _) | exact HK.out)) hk (.inl rfl)); replace HB := Aside0.mk (hb); replace HI0 := Aside0.mk (hi); (try clear hb); (try clear hb2); (try clear hk); (try clear hi)) | ((with_reducible refine gC 179 ?_); refine cL (some 16) Try.func179 #[.int .i64 t559, .int .i64 t563] ?_; (with_reducible refine (spec_NewBand.calls k t559 t563 t566 t567 t568 t571 t574 _ A5.out).mono ?_); rintro e w10 ⟨v569, v572, rfl, ho0, ho1, hb⟩; refine ⟨_, rfl, ?_⟩; have HO570 := Aside0.mk (Kd.S_lower ho0 (keep_size (w := w) (g := g) (row := none) (by repeat (first | (with_reducible first | exact HK.out | apply KeepBut.set_ | apply keep_drewN | apply keep_drew | apply keep_alloc | refine keep_far ?_ GW558.out _) | exact HK.out)))); have HO573 := Aside0.mk (Kd.S_lower ho1 (keep_size (w := w) (g := g) (row := none) (by repeat (first | (with_reducible first | exact HK.out | apply KeepBut.set_ | apply keep_drewN | apply keep_drew | apply keep_alloc | refine keep_far ?_ GW558.out _) | exact HK.out)))); replace BK558 := kB (g := gb558) hb; replace HK := Aside0.mk (KeepBut.trans (by repeat (first | (with_reducible first | exact HK.out | apply KeepBut.set_ | apply keep_drewN | apply keep_drew | apply keep_alloc | refine keep_far ?_ GW558.out _) | exact HK.out)) (KeepBut.of_below hb g none) (.inl rfl)); replace HB := Aside0.mk (below_step (by repeat (first | (with_reducible first | exact HB.out | apply below_alloc | apply pw_below_drewN | apply below_drew1 | refine below_set ?_ (IsS161.ge HI0.out) | refine below_set ?_ GE558.out) | exact HB.out)) hb); replace HI0 := Aside0.mk (IsS161.below (by repeat (first | (with_reducible first | exact HI0.out | apply IsS161.alloc | apply IsS161.drewN | apply IsS161.drew | apply IsS161.set_1 | apply IsS161.set_2 | refine IsS161.far ?_ NB0_558.out _) | exact HI0.out)) hb); (try clear hb); (try clear hb2); (try clear hk); (try clear hi); (try clear ho0); (try clear ho1)) | ((with_reducible refine gD 4 ?_); refine bxE #[.int .i64 0, .int .i64 0, .slice none 0 0, .slice none 0 0] 58 ?_; intro gb575 hg w11 BK575 hb; have GW575 := Aside0.mk ((by rw [hg]; exact (keep_size (w := w) (g := g) (row := none) (by repeat (first | (with_reducible first | exact HK.out | apply KeepBut.set_ | apply keep_drewN | apply keep_drew | apply keep_alloc | refine keep_far ?_ GW558.out _) | exact HK.out))) : w.heap.size ≤ gb575)); have GE575 := Aside0.mk ((Nat.le_trans HW0.out (by rw [hg]; exact (keep_size (w := w) (g := g) (row := none) (by repeat (first | (with_reducible first | exact HK.out | apply KeepBut.set_ | apply keep_drewN | apply keep_drew | apply keep_alloc | refine keep_far ?_ GW558.out _) | exact HK.out))) : w.heap.size ≤ gb575) : w0.heap.size ≤ gb575)); have NB558_575 := nL (g := gb558) hg; have NB575_558 := nG (g := gb558) hg; have NB0_575 := Aside0.mk ((by rw [hg]; exact Nat.ne_of_lt (IsS161.lt (show IsS161 w0 _ g s0_0 t564 t565 from by repeat (first | (with_reducible first | exact HI0.out | apply IsS161.alloc | apply IsS161.drewN | apply IsS161.drew | apply IsS161.set_1 | apply IsS161.set_2 | refine IsS161.far ?_ NB0_558.out _) | exact HI0.out))) : g ≠ gb575)); have NB575_0 := Aside0.mk ((by rw [hg]; exact Nat.ne_of_gt (IsS161.lt (show IsS161 w0 _ g s0_0 t564 t565 from by repeat (first | (with_reducible first | exact HI0.out | apply IsS161.alloc | apply IsS161.drewN | apply IsS161.drew | apply IsS161.set_1 | apply IsS161.set_2 | refine IsS161.far ?_ NB0_558.out _) | exact HI0.out))) : gb575 ≠ g)); replace HO570 := sB HO570 hb; replace HO573 := sB HO573 hb; replace BK558 := kB (g := gb558) hb; replace HK := Aside0.mk (KeepBut.trans (by repeat (first | (with_reducible first | exact HK.out | apply KeepBut.set_ | apply keep_drewN | apply keep_drew | apply keep_alloc | refine keep_far ?_ GW558.out _) | exact HK.out)) (KeepBut.of_below hb g none) (.inl rfl)); replace HB := Aside0.mk (below_step (by repeat (first | (with_reducible first | exact HB.out | apply below_alloc | apply pw_below_drewN | apply below_drew1 | refine below_set ?_ (IsS161.ge HI0.out) | refine below_set ?_ GE558.out) | exact HB.out)) hb); replace HI0 := Aside0.mk (IsS161.below (by repeat (first | (with_reducible first | exact HI0.out | apply IsS161.alloc | apply IsS161.drewN | apply IsS161.drew | apply IsS161.set_1 | apply IsS161.set_2 | refine IsS161.far ?_ NB0_558.out _) | exact HI0.out)) hb); clear hb hg; have hnb12 := NB575_558.out; have hnc12 := NB558_575.out; have hnb13 := NB575_0.out; have hnc13 := NB0_575.out; have hcz14_0 : w11.cell? ⟨gb575, 0, none⟩ = some (.int .i64 0) := (blk_cell BK575.out 0).trans rfl; have hcz14_1 : w11.cell? ⟨gb575, 1, none⟩ = some (.int .i64 0) := (blk_cell BK575.out 1).trans rfl; have hcz14_2 : w11.cell? ⟨gb575, 2, none⟩ = some (.slice none 0 0) := (blk_cell BK575.out 2).trans rfl; have hcz14_3 : w11.cell? ⟨gb575, 3, none⟩ = some (.slice none 0 0) := (blk_cell BK575.out 3).trans rfl; have hfz14_0 := blk_frozen BK575.out 0; have hfz14_1 := blk_frozen BK575.out 1; have hfz14_2 := blk_frozen BK575.out 2; have hfz14_3 := blk_frozen BK575.out 3; obtain ⟨Ao15, co15, eo15⟩ := Kd.S_slice HO570.out; subst eo15; obtain ⟨Ao16, co16, eo16⟩ := Kd.S_slice HO573.out; subst eo16) | ((with_reducible refine gC 136 ?_); refine cL (some 20) Try.func136 #[.pointer (some ⟨g, 0, none⟩), .int .i64 14] ?_; (with_reducible refine (spec_l01Below.calls g s0_0 t564 t565 14 t576 t577 t578 w0 _ ?side1 ?side2 A6.out).mono ?_); (case side1 => repeat (first | (with_reducible first | exact HI0.out | apply IsS161.alloc | apply IsS161.drewN | apply IsS161.drew | apply IsS161.set_1 | apply IsS161.set_2 | refine IsS161.far ?_ NB0_558.out _ | refine IsS161.far ?_ NB0_575.out _) | exact HI0.out)); (case side2 => repeat (first | (with_reducible first | exact HB.out | apply below_alloc | apply pw_below_drewN | apply below_drew1 | refine below_set ?_ (IsS161.ge HI0.out) | refine below_set ?_ GE558.out | refine below_set ?_ GE575.out) | exact HB.out)); rintro e w17 ⟨rfl, hi, hb, hk⟩; refine ⟨_, rfl, ?_⟩; replace BK558 := Aside0.mk (KeepBut.blk hk (g' := gb558) kS NB558_0.out (by simp)); replace HO570 := Aside0.mk (Kd.S_mono (Kd.S_keep (IsS161.apartS (show IsS161 w0 _ g s0_0 t564 t565 from by repeat (first | (with_reducible first | exact HI0.out | apply IsS161.alloc | apply IsS161.drewN | apply IsS161.drew | apply IsS161.set_1 | apply IsS161.set_2 | refine IsS161.far ?_ NB0_558.out _ | refine IsS161.far ?_ NB0_575.out _) | exact HI0.out)) (by exact sT (Kd.S_mono (Kd.S_far (p := ⟨gb575, 3, none⟩) (Kd.S_far (p := ⟨gb575, 2, none⟩) (Kd.S_far (p := ⟨gb575, 1, none⟩) (Kd.S_far (p := ⟨gb575, 0, none⟩) (Kd.S_types HO570.out BK575.out (by decide)) (fun _ hk => hk.2) (.int .i64 t566)) (fun _ hk => hk.2) (.int .i64 t567)) (fun _ hk => hk.2) (.slice Ao15 t568.length co15)) (fun _ hk => hk.2) (.slice Ao16 t571.length co16)) (fun _ h_ => h_.1))) (by decide)) hk (fun _ h => h.2)) (fun _ h => h.1)); replace HO573 := Aside0.mk (Kd.S_mono (Kd.S_keep (IsS161.apartS (show IsS161 w0 _ g s0_0 t564 t565 from by repeat (first | (with_reducible first | exact HI0.out | apply IsS161.alloc | apply IsS161.drewN | apply IsS161.drew | apply IsS161.set_1 | apply IsS161.set_2 | refine IsS161.far ?_ NB0_558.out _ | refine IsS161.far ?_ NB0_575.out _) | exact HI0.out)) (by exact sT (Kd.S_mono (Kd.S_far (p := ⟨gb575, 3, none⟩) (Kd.S_far (p := ⟨gb575, 2, none⟩) (Kd.S_far (p := ⟨gb575, 1, none⟩) (Kd.S_far (p := ⟨gb575, 0, none⟩) (Kd.S_types HO573.out BK575.out (by decide)) (fun _ hk => hk.2) (.int .i64 t566)) (fun _ hk => hk.2) (.int .i64 t567)) (fun _ hk => hk.2) (.slice Ao15 t568.length co15)) (fun _ hk => hk.2) (.slice Ao16 t571.length co16)) (fun _ h_ => h_.1))) (by decide)) hk (fun _ h => h.2)) (fun _ h => h.1)); replace BK575 := Aside0.mk (KeepBut.blk hk (g' := gb575) (o := .cells #[.int .i64 t566, .int .i64 t567, .slice Ao15 t568.length co15, .slice Ao16 t571.length co16] 58 (0, 0)) kS NB575_0.out (by simp)); replace HK := Aside0.mk (KeepBut.trans (by repeat (first | (with_reducible first | exact HK.out | apply KeepBut.set_ | apply keep_drewN | apply keep_drew | apply keep_alloc | refine keep_far ?_ GW558.out _ | refine keep_far ?_ GW575.out _) | exact HK.out)) hk (.inl rfl)); replace HB := Aside0.mk (hb); replace HI0 := Aside0.mk (hi); (try clear hb); (try clear hb2); (try clear hk); (try clear hi)))
 go_loopg [7] k (fun kq v7 w' => ∃ (x7_1 : Int) (x1001_1 : Int) (x1002_1 : Int) (x576000_1 : Int) (x576001_1 : Int) (x576002_1 : List (List Int)) (x576003_1 : List (S45)) (u576002 : Value) (u576003 : Value), v7 = .int .i64 x7_1 ∧ Aside0 (spec_l13Band.l0 kq t576 x7_1 s0_0 x1001_1 x1002_1 x576000_1 x576001_1 x576002_1 x576003_1 = some (r1, r2, r3, r4, r5, r6)) ∧ Aside0 (kq ≤ k) ∧ Aside0 (Kd.S (Kd.slice 3 (Kd.int .i64)) 71 w' w.heap.size (fun _ => True) u576002 x576002_1) ∧ Aside0 (Kd.S k45 45 w' w.heap.size (fun _ => True) u576003 x576003_1) ∧ Aside0 (w'.heap[gb558]? = some (.cells #[.int .i64 0, .int .i64 0, (.slice none 0 0), (.slice none 0 0)] 58 (0, 0))) ∧ Aside0 (w'.heap[gb575]? = some (.cells #[.int .i64 x576000_1, .int .i64 x576001_1, u576002, u576003] 58 (0, 0))) ∧ Aside0 (IsS161 w0 w' g s0_0 x1001_1 x1002_1) ∧ Aside0 (KeepBut w w' g none) ∧ Aside0 (Below w0.heap.size w0 w'))
 case atStart => exact ⟨(0), (t577), (t578), (t566), (t567), (t568), (t571), (.slice Ao15 t568.length co15), (.slice Ao16 t571.length co16), fS, H', ⟨Nat.le_refl _⟩, ⟨sS HO570⟩, ⟨sS HO573⟩, ⟨kS⟩, ⟨kS⟩, ⟨by repeat (first | (with_reducible first | exact HI0.out | apply IsS161.alloc | apply IsS161.drewN | apply IsS161.drew | apply IsS161.set_1 | apply IsS161.set_2 | refine IsS161.far ?_ NB0_558.out _ | refine IsS161.far ?_ NB0_575.out _) | exact HI0.out)⟩, ⟨by repeat (first | (with_reducible first | exact HK.out | apply KeepBut.set_ | apply keep_drewN | apply keep_drew | apply keep_alloc | refine keep_far ?_ GW558.out _ | refine keep_far ?_ GW575.out _) | exact HK.out)⟩, ⟨by repeat (first | (with_reducible first | exact HB.out | apply below_alloc | apply pw_below_drewN | apply below_drew1 | refine below_set ?_ (IsS161.ge HI0.out) | refine below_set ?_ GE558.out | refine below_set ?_ GE575.out) | exact HB.out)⟩⟩
 case round =>
  clear H'
  try clear c1
  try clear p2
  try clear c6
  try clear c7
  try clear c12
  try clear c13
  try clear c17
  try clear hcz14_0
  try clear hcz14_1
  try clear hcz14_2
  try clear hcz14_3
  try clear hfz14_0
  try clear hfz14_1
  try clear hfz14_2
  try clear hfz14_3
  obtain ⟨x7_1, x1001_1, x1002_1, x576000_1, x576001_1, x576002_1, x576003_1, u576002, u576003, rfl, HA, HK1, HO_576002, HO_576003, BK558, BK575, HI0, HK, HB⟩ := hrel
  cases gk with
  | zero => exact absurd HA.out (by simp [spec_l13Band.l0])
  | succ k1 =>
   have H := HA.out
   clear HA
   simp only [spec_l13Band.l0] at H
   rcases iD H with ⟨c18b0, H⟩ | ⟨c18b0, H⟩
   ·replace H := bN H
    obtain ⟨⟨t579, t582, t583, t584, t585, t586, t587, t588⟩, A19, H⟩ := H
    replace H := bN H
    obtain ⟨⟨t589, t590, t591, t594, t597⟩, A20, H⟩ := H
    have H' := Aside0.mk H
    clear H
    try go_wp2
    replace HO_576002 := Aside0.mk (Kd.S_drew HO_576002.out)
    replace HO_576003 := Aside0.mk (Kd.S_drew HO_576003.out)
    replace BK558 := Aside0.mk (blk_drew BK558.out)
    replace BK575 := Aside0.mk (blk_drew BK575.out)
    replace HI0 := Aside0.mk (IsS161.drew HI0.out)
    replace HK := Aside0.mk (keep_drew HK.out)
    replace HB := Aside0.mk (below_drew1 HB.out)
    refine start_ (n := 8) (S := fun w' => w'.cell? ⟨gb575, 0, none⟩ = some (.int .i64 x576000_1) ∧ w'.cell? ⟨gb575, 1, none⟩ = some (.int .i64 x576001_1) ∧ w'.cell? ⟨gb575, 2, none⟩ = some (u576002) ∧ w'.cell? ⟨gb575, 3, none⟩ = some (u576003)) (ds := [7]) #[false, false, false, false, false, false, false, false] (by kernel_rfl) rfl rfl (cy4 BK575) (fun hHeld => ?_); refine with_tabW spec_l13Band.tab7 spec_l13Band.bits7 (fun HT_ HW_ => ?_)
    generalize wr.drew = w21 at HO_576002 HO_576003 BK558 BK575 HI0 HK HB hHeld ⊢
    refine pU 1 (some 28) #[false, true, false, false, false, false, false, false] ?_
    refine tK 0 (some 27) #[true, true, false, false, false, false, false, false] ?_
    refine one_ (i := 2) (N := some 29) #[true, true, true, false, false, false, false, false] rfl rfl (one_of HT_.out (by kernel_rfl)) (by decide) (fun K hK => ?_)
    refine goes_ Try.func139 (by kernel_rfl) rfl #[.pointer (some ⟨g, 0, none⟩)] (by rfl) rfl rfl (by (try simp only [List.map_toArray, List.map_cons, List.map_nil]); first | done | rfl | (simp only [List.length_drop, List.length_take]; rfl)) ?_
    with_reducible refine (spec_l10Object.calls k1 g s0_0 x1001_1 x1002_1 t579 t582 t583 t584 t585 t586 t587 t588 w0 _ ?side1 ?side2 A19.out).mono ?_
    (case side1 => repeat (first | (with_reducible first | exact HI0.out | apply IsS161.alloc | apply IsS161.drewN | apply IsS161.drew | apply IsS161.set_1 | apply IsS161.set_2 | refine IsS161.far ?_ NB0_558.out _ | refine IsS161.far ?_ NB0_575.out _) | exact HI0.out))
    (case side2 => repeat (first | (with_reducible first | exact HB.out | apply below_alloc | apply pw_below_drewN | apply below_drew1 | refine below_set ?_ (IsS161.ge HI0.out) | refine below_set ?_ GE558.out | refine below_set ?_ GE575.out) | exact HB.out))
    rintro e w22 ⟨v580, rfl, ho0, hi, hb, hk⟩
    refine ⟨_, rfl, ?_⟩
    have HO581 := Aside0.mk (Kd.R_lower ho0 (keep_size (w := w) (g := g) (row := none) (by repeat (first | (with_reducible first | exact HK.out | apply KeepBut.set_ | apply keep_drewN | apply keep_drew | apply keep_alloc | refine keep_far ?_ GW558.out _ | refine keep_far ?_ GW575.out _) | exact HK.out))))
    replace HO_576002 := Aside0.mk (Kd.S_mono (Kd.S_keep (IsS161.apartS (show IsS161 w0 _ g s0_0 x1001_1 x1002_1 from by repeat (first | (with_reducible first | exact HI0.out | apply IsS161.alloc | apply IsS161.drewN | apply IsS161.drew | apply IsS161.set_1 | apply IsS161.set_2 | refine IsS161.far ?_ NB0_558.out _ | refine IsS161.far ?_ NB0_575.out _) | exact HI0.out)) (sS HO_576002) (by decide)) hk (fun _ h => h.2)) (fun _ h => h.1))
    replace HO_576003 := Aside0.mk (Kd.S_mono (Kd.S_told (Kd.S_oldK (IsS161.apartS (show IsS161 w0 _ g s0_0 x1001_1 x1002_1 from by repeat (first | (with_reducible first | exact HI0.out | apply IsS161.alloc | apply IsS161.drewN | apply IsS161.drew | apply IsS161.set_1 | apply IsS161.set_2 | refine IsS161.far ?_ NB0_558.out _ | refine IsS161.far ?_ NB0_575.out _) | exact HI0.out)) (sS HO_576003) (by decide)) hk) (Kd.R_base ho0)) (fun _ h_ => h_.1))
    replace BK558 := Aside0.mk (KeepBut.blk hk (g' := gb558) kS NB558_0.out (by simp))
    replace BK575 := Aside0.mk (KeepBut.blk hk (g' := gb575) kS NB575_0.out (by simp))
    replace HK := Aside0.mk (KeepBut.trans (by repeat (first | (with_reducible first | exact HK.out | apply KeepBut.set_ | apply keep_drewN | apply keep_drew | apply keep_alloc | refine keep_far ?_ GW558.out _ | refine keep_far ?_ GW575.out _) | exact HK.out)) hk (.inl rfl))
    replace HB := Aside0.mk (hb)
    replace HI0 := Aside0.mk (hi)
    (try clear hb)
    (try clear hb2)
    (try clear hk)
    (try clear hi)
    (try clear ho0)
    obtain ⟨Ao23, co23, eo23⟩ := Kd.S_slice HO_576002.out
    (first | subst eo23 | (injection eo23 with f1_ f2_ f3_; have f4_ := f1_.symm; have f5_ := f3_.symm; clear f1_ f2_ f3_; subst f4_; subst f5_))
    obtain ⟨Ao24, co24, eo24⟩ := Kd.S_slice HO_576003.out
    (first | subst eo24 | (injection eo24 with f1_ f2_ f3_; have f4_ := f1_.symm; have f5_ := f3_.symm; clear f1_ f2_ f3_; subst f4_; subst f5_))
    obtain ⟨Ao25, co25, eo25⟩ := Kd.R_slice HO581.out
    (first | subst eo25 | (injection eo25 with f1_ f2_ f3_; have f4_ := f1_.symm; have f5_ := f3_.symm; clear f1_ f2_ f3_; subst f4_; subst f5_))
    refine hK.out _ _ (cy4 BK575) (fun hHeld => ?_)
    clear hK K
    refine norm_ (a' := ?_) ?_ ?_
    rotate_left
    ·show Act.put _ (some 29) _ = _
     simp only [Act.put, List.setIfInBounds_toArray, List.set_cons_zero, List.set_cons_succ, i64_w, i32_w]
     rfl
    refine one_ (i := 3) (N := some 30) #[true, true, true, true, false, false, false, false] rfl rfl (one_of HT_.out (by kernel_rfl)) (by decide) (fun K hK => ?_)
    refine goes_ Try.func180 (by kernel_rfl) rfl #[.agg #[.int .i64 x576000_1, .int .i64 x576001_1, .slice Ao23 x576002_1.length co23, .slice Ao24 x576003_1.length co24], .agg #[.slice Ao25 t579.length co25, .int .i64 t582, .int .i64 t583, .int .i64 t584, .int .i64 t585, .int .i64 t586]] (by rfl) rfl rfl (by (try simp only [List.map_toArray, List.map_cons, List.map_nil]); first | done | rfl | (simp only [List.length_drop, List.length_take]; rfl)) ?_
    with_reducible refine (spec_AddToBand.calls k1 x576000_1 x576001_1 _ _ x576002_1 _ _ x576003_1 _ _ t579 t582 t583 t584 t585 t586 t589 t590 t591 t594 t597 _ ?side1 ?side2 ?side3 ?side4 ?side5 ?side6 A20.out).mono ?_
    (case side1 => exact cS (Kd.S_reads' HO_576002.out).2.2)
    (case side2 => exact (Kd.S_reads' HO_576002.out).2.1)
    (case side3 => exact cS (Kd.S_reads' HO_576003.out).2.2)
    (case side4 => exact (Kd.S_reads' HO_576003.out).2.1)
    (case side5 => exact cS (Kd.R_reads' HO581.out).2.2)
    (case side6 => exact (Kd.R_reads' HO581.out).2.1)
    rintro e w26 ⟨v592, v595, rfl, ho0, ho1, hb⟩
    refine ⟨_, rfl, ?_⟩
    have HO593 := Aside0.mk (Kd.S_lower (Kd.S_new' ho0 (Kd.S_lt (sS HO_576002))) (keep_size (w := w) (g := g) (row := none) (by repeat (first | (with_reducible first | exact HK.out | apply KeepBut.set_ | apply keep_drewN | apply keep_drew | apply keep_alloc | refine keep_far ?_ GW558.out _ | refine keep_far ?_ GW575.out _) | exact HK.out))))
    have HO596 := Aside0.mk (Kd.S_lower (Kd.S_new' (Kd.S_new' ho1 (Kd.S_lt (sS HO_576003))) (Kd.R_lt (rS HO581))) (keep_size (w := w) (g := g) (row := none) (by repeat (first | (with_reducible first | exact HK.out | apply KeepBut.set_ | apply keep_drewN | apply keep_drew | apply keep_alloc | refine keep_far ?_ GW558.out _ | refine keep_far ?_ GW575.out _) | exact HK.out))))
    replace HO_576002 := Aside0.mk (Kd.S_elder' (sS HO_576002) (Kd.S_base ho0) hb)
    replace HO_576003 := Aside0.mk (Kd.S_elder' (sS HO_576003) (Kd.S_base ho1) hb)
    replace HO581 := Aside0.mk (Kd.R_below (rS HO581) hb)
    replace BK558 := kB (g := gb558) hb
    replace BK575 := kB (g := gb575) hb
    replace HK := Aside0.mk (KeepBut.trans (by repeat (first | (with_reducible first | exact HK.out | apply KeepBut.set_ | apply keep_drewN | apply keep_drew | apply keep_alloc | refine keep_far ?_ GW558.out _ | refine keep_far ?_ GW575.out _) | exact HK.out)) (KeepBut.of_below hb g none) (.inl rfl))
    replace HB := Aside0.mk (below_step (by repeat (first | (with_reducible first | exact HB.out | apply below_alloc | apply pw_below_drewN | apply below_drew1 | refine below_set ?_ (IsS161.ge HI0.out) | refine below_set ?_ GE558.out | refine below_set ?_ GE575.out) | exact HB.out)) hb)
    replace HI0 := Aside0.mk (IsS161.below (by repeat (first | (with_reducible first | exact HI0.out | apply IsS161.alloc | apply IsS161.drewN | apply IsS161.drew | apply IsS161.set_1 | apply IsS161.set_2 | refine IsS161.far ?_ NB0_558.out _ | refine IsS161.far ?_ NB0_575.out _) | exact HI0.out)) hb)
    (try clear hb)
    (try clear hb2)
    (try clear hk)
    (try clear hi)
    (try clear ho0)
    (try clear ho1)
    obtain ⟨Ao29, co29, eo29⟩ := Kd.S_slice HO593.out
    (first | subst eo29 | (injection eo29 with f1_ f2_ f3_; have f4_ := f1_.symm; have f5_ := f3_.symm; clear f1_ f2_ f3_; subst f4_; subst f5_))
    obtain ⟨Ao31, co31, eo31⟩ := Kd.S_slice HO596.out
    (first | subst eo31 | (injection eo31 with f1_ f2_ f3_; have f4_ := f1_.symm; have f5_ := f3_.symm; clear f1_ f2_ f3_; subst f4_; subst f5_))
    refine hK.out _ _ (cy4 BK575) (fun hHeld => ?_)
    clear hK K
    refine norm_ (a' := ?_) ?_ ?_
    rotate_left
    ·show Act.put _ (some 30) _ = _
     simp only [Act.put, List.setIfInBounds_toArray, List.set_cons_zero, List.set_cons_succ, i64_w, i32_w]
     rfl
    refine pU 4 (some 26) #[true, true, true, true, true, false, false, false] ?_
    refine pU 5 (some 31) #[true, true, true, true, true, true, false, false] ?_
    refine pU 6 (some 32) #[true, true, true, true, true, true, true, false] ?_
    refine last_ (i := 7) (N := none) #[true, true, true, true, true, true, true, true] rfl rfl (one_of HT_.out (by kernel_rfl)) (by decide) (fun K hK => ?_)
    have hs27 : w26.cell? ⟨gb575, 0, none⟩ = some (.int .i64 x576000_1) := (blk_cell BK575.out 0).trans rfl
    have hfs27 := blk_frozen BK575.out 0
    have hns27_0 := NB558_575.out
    have hms27_0 := NB575_558.out
    have hs28 : w26.cell? ⟨gb575, 1, none⟩ = some (.int .i64 x576001_1) := (blk_cell BK575.out 1).trans rfl
    have hfs28 := blk_frozen BK575.out 1
    have hns28_0 := NB558_575.out
    have hms28_0 := NB575_558.out
    have hs30 : w26.cell? ⟨gb575, 2, none⟩ = some (.slice Ao23 x576002_1.length co23) := (blk_cell BK575.out 2).trans rfl
    have hfs30 := blk_frozen BK575.out 2
    have hns30_0 := NB558_575.out
    have hms30_0 := NB575_558.out
    have hs32 : w26.cell? ⟨gb575, 3, none⟩ = some (.slice Ao24 x576003_1.length co24) := (blk_cell BK575.out 3).trans rfl
    have hfs32 := blk_frozen BK575.out 3
    have hns32_0 := NB558_575.out
    have hms32_0 := NB575_558.out
    refine skip_ (w1 := ?_) (by rfl) rfl ?_ ?_
    rotate_left
    ·go_simp
     rfl
    refine hK.out _ _ ?_
    clear hK K
    refine done_ (done_of HT_.out (by kernel_rfl)) ?_
    try go_wp2
    go_roundg k1
    case measure => have := HK1.out; omega
    case rel => exact ⟨(wrap64 (x7_1 + 1)), (t587), (t588), (t589), (t590), (t591), (t594), (.slice Ao29 t591.length co29), (.slice Ao31 t594.length co31), fS, H', ⟨by have := HK1.out; omega⟩, ⟨by exact sT (Kd.S_mono (Kd.S_far (p := ⟨gb575, 3, none⟩) (Kd.S_far (p := ⟨gb575, 2, none⟩) (Kd.S_far (p := ⟨gb575, 1, none⟩) (Kd.S_far (p := ⟨gb575, 0, none⟩) (Kd.S_types HO593.out BK575.out (by decide)) (fun _ hk => hk.2) (.int .i64 t589)) (fun _ hk => hk.2) (.int .i64 t590)) (fun _ hk => hk.2) (.slice Ao29 t591.length co29)) (fun _ hk => hk.2) (.slice Ao31 t594.length co31)) (fun _ hk => trivial))⟩, ⟨by exact sT (Kd.S_mono (Kd.S_far (p := ⟨gb575, 3, none⟩) (Kd.S_far (p := ⟨gb575, 2, none⟩) (Kd.S_far (p := ⟨gb575, 1, none⟩) (Kd.S_far (p := ⟨gb575, 0, none⟩) (Kd.S_types HO596.out BK575.out (by decide)) (fun _ hk => hk.2) (.int .i64 t589)) (fun _ hk => hk.2) (.int .i64 t590)) (fun _ hk => hk.2) (.slice Ao29 t591.length co29)) (fun _ hk => hk.2) (.slice Ao31 t594.length co31)) (fun _ hk => trivial))⟩, ⟨kS⟩, ⟨kS⟩, ⟨by repeat (first | (with_reducible first | exact HI0.out | apply IsS161.alloc | apply IsS161.drewN | apply IsS161.drew | apply IsS161.set_1 | apply IsS161.set_2 | refine IsS161.far ?_ NB0_558.out _ | refine IsS161.far ?_ NB0_575.out _) | exact HI0.out)⟩, ⟨by repeat (first | (with_reducible first | exact HK.out | apply KeepBut.set_ | apply keep_drewN | apply keep_drew | apply keep_alloc | refine keep_far ?_ GW558.out _ | refine keep_far ?_ GW575.out _) | exact HK.out)⟩, ⟨by repeat (first | (with_reducible first | exact HB.out | apply below_alloc | apply pw_below_drewN | apply below_drew1 | refine below_set ?_ (IsS161.ge HI0.out) | refine below_set ?_ GE558.out | refine below_set ?_ GE575.out) | exact HB.out)⟩⟩
   ·obtain ⟨rfl, rfl, rfl, rfl, rfl, rfl⟩ := sI6 H
    have hnb33 := NB575_558.out
    have hnc33 := NB558_575.out
    have hnb34 := NB575_0.out
    have hnc34 := NB0_575.out
    have hz35 := cz4 BK575
    have hnb36 := NB558_0.out
    have hnc36 := NB0_558.out
    have hz37 := cz4 BK558
    obtain ⟨Ao38, co38, eo38⟩ := Kd.S_slice HO_576002.out
    subst eo38
    obtain ⟨Ao39, co39, eo39⟩ := Kd.S_slice HO_576003.out
    subst eo39
    go_wp2
    refine bodyPost_ret (results_cell_row rfl _ _ gb558 58 #[.int .i64 x576000_1, .int .i64 x576001_1, .slice Ao38 x576002_1.length co38, .slice Ao39 x576003_1.length co39] (0, 0) _ rfl kS Try.underlying58 rfl (by kernel_rfl)) rfl ?_
    exact ⟨_, _, eS, by exact sT (Kd.S_mono (Kd.S_far (p := ⟨gb558, 3, none⟩) (Kd.S_far (p := ⟨gb558, 2, none⟩) (Kd.S_far (p := ⟨gb558, 1, none⟩) (Kd.S_far (p := ⟨gb558, 0, none⟩) (Kd.S_types HO_576002.out BK558.out (by decide)) (fun _ hk => hk.2) (.int .i64 x576000_1)) (fun _ hk => hk.2) (.int .i64 x576001_1)) (fun _ hk => hk.2) (.slice Ao38 x576002_1.length co38)) (fun _ hk => hk.2) (.slice Ao39 x576003_1.length co39)) (fun _ hk => trivial)), by exact sT (Kd.S_mono (Kd.S_far (p := ⟨gb558, 3, none⟩) (Kd.S_far (p := ⟨gb558, 2, none⟩) (Kd.S_far (p := ⟨gb558, 1, none⟩) (Kd.S_far (p := ⟨gb558, 0, none⟩) (Kd.S_types HO_576003.out BK558.out (by decide)) (fun _ hk => hk.2) (.int .i64 x576000_1)) (fun _ hk => hk.2) (.int .i64 x576001_1)) (fun _ hk => hk.2) (.slice Ao38 x576002_1.length co38)) (fun _ hk => hk.2) (.slice Ao39 x576003_1.length co39)) (fun _ hk => trivial)), by repeat (first | (with_reducible first | exact HI0.out | apply IsS161.alloc | apply IsS161.drewN | apply IsS161.drew | apply IsS161.set_1 | apply IsS161.set_2 | refine IsS161.far ?_ NB0_558.out _ | refine IsS161.far ?_ NB0_575.out _) | exact HI0.out), by repeat (first | (with_reducible first | exact HB.out | apply below_alloc | apply pw_below_drewN | apply below_drew1 | refine below_set ?_ (IsS161.ge HI0.out) | refine below_set ?_ GE558.out | refine below_set ?_ GE575.out) | exact HB.out), by repeat (first | (with_reducible first | exact HK.out | apply KeepBut.set_ | apply keep_drewN | apply keep_drew | apply keep_alloc | refine keep_far ?_ GW558.out _ | refine keep_far ?_ GW575.out _) | exact HK.out)⟩

/-! ### spec_DrawBand: function 61 -/
def spec_DrawBand.f (k : Nat) (l0 : List Int) : Option (Int × Int × (List (List Int)) × (List (S45))) := (spec_l01New.f k l0).bind fun bt599 => ((spec_l13Band.f k bt599.1 bt599.2.1 bt599.2.2).bind fun bt603 => (some (bt603.1, bt603.2.1, bt603.2.2.1, bt603.2.2.2.1)))
theorem spec_DrawBand.calls (k : Nat) (A0 : Option Addr) (c0 : Nat) (l0 : List Int) (r1 : Int) (r2 : Int) (r3 : List (List Int)) (r4 : List (S45)) (w : World) (hr0 : Kd.C (Kd.int .u8) w A0 l0.length l0) (hc0 : l0.length ≤ c0) (h : spec_DrawBand.f k l0 = some (r1, r2, r3, r4)) :
  Calls Try.prog 61 #[.slice A0 l0.length c0] w fun e w' => ∃ v2_ v3_ : Value, e = .returned (.agg #[.int .i64 r1, .int .i64 r2, v2_, v3_]) ∧ Kd.S (Kd.slice 3 (Kd.int .i64)) 71 w' w.heap.size (fun _ => True) v2_ r3 ∧ Kd.S k45 45 w' w.heap.size (fun _ => True) v3_ r4 ∧ Below w.heap.size w w' := by
 have hu58 := Try.underlying58
 have HR0 := Aside0.mk hr0
 have HC0 := Aside0.mk hc0
 clear hr0 hc0
 have HB := Aside0.mk (Below.refl w.heap.size w)
 have H : ((spec_l01New.f k l0).bind fun bt599 => ((spec_l13Band.f k bt599.1 bt599.2.1 bt599.2.2).bind fun bt603 => (some (bt603.1, bt603.2.1, bt603.2.2.1, bt603.2.2.2.1)))) = some (r1, r2, r3, r4) := h
 clear h
 replace H := bN H
 obtain ⟨⟨t599, t600, t601⟩, A2, H⟩ := H
 replace H := bN H
 obtain ⟨⟨t603, t604, t605, t608, t611, t612⟩, A3, H⟩ := H
 obtain ⟨rfl, rfl, rfl, rfl⟩ := sI4 H
 go_enter Try.func61, Try.ntmps61
 go_wp2_with (first | ((with_reducible refine gD 2 ?_); refine bxE #[.int .i64 0, .int .i64 0, .slice none 0 0, .slice none 0 0] 58 ?_; intro gb598 hg w4 BK598 hb; have GW598 := gE hg; have GE598 := gE hg; replace HB := hB hb; clear hb hg) | ((with_reducible refine gC 71 ?_); refine cL (some 4) Try.func71 #[.slice A0 l0.length c0] ?_; (with_reducible refine (spec_l01New.calls k _ _ l0 t599 t600 t601 w _ ?side1 ?side2 ?side3 A2.out).mono ?_); (case side1 => repeat (first | (with_reducible first | exact HB.out | apply below_alloc | apply pw_below_drewN | apply below_drew1 | refine below_set ?_ GE598.out) | exact HB.out)); (case side2 => exact HR0.out); (case side3 => exact HC0.out); rintro e w5 ⟨g602, rfl, hi, hb, hb2⟩; refine ⟨_, rfl, ?_⟩; have HI602 := Aside0.mk (hi); have NB602_598 := Aside0.mk (IsS161.ne_blk hi (blk_below (g := gb598) kS hb2) (by decide)); have NB598_602 := Aside0.mk (Ne.symm (IsS161.ne_blk hi (blk_below (g := gb598) kS hb2) (by decide))); replace BK598 := Aside0.mk (blk_below (g := gb598) kS hb2); replace HB := Aside0.mk (hb); (try clear hb); (try clear hb2); (try clear hk); (try clear hi)) | ((with_reducible refine gC 132 ?_); refine cL (some 5) Try.func132 #[.pointer (some ⟨g602, 0, none⟩)] ?_; (with_reducible refine (spec_l13Band.calls k g602 t599 t600 t601 t603 t604 t605 t608 t611 t612 w _ ?side1 ?side2 A3.out).mono ?_); (case side1 => repeat (first | (with_reducible first | exact HI602.out | apply IsS161.alloc | apply IsS161.drewN | apply IsS161.drew | apply IsS161.set_1 | apply IsS161.set_2 | refine IsS161.far ?_ NB602_598.out _) | exact HI602.out)); (case side2 => repeat (first | (with_reducible first | exact HB.out | apply below_alloc | apply pw_below_drewN | apply below_drew1 | refine below_set ?_ (IsS161.ge HI602.out) | refine below_set ?_ GE598.out) | exact HB.out)); rintro e w6 ⟨v606, v609, rfl, ho0, ho1, hi, hb, hk⟩; refine ⟨_, rfl, ?_⟩; have HO607 := Aside0.mk (Kd.S_lower ho0 (below_size (by repeat (first | (with_reducible first | exact HB.out | apply below_alloc | apply pw_below_drewN | apply below_drew1 | refine below_set ?_ (IsS161.ge HI602.out) | refine below_set ?_ GE598.out) | exact HB.out)))); have HO610 := Aside0.mk (Kd.S_lower ho1 (below_size (by repeat (first | (with_reducible first | exact HB.out | apply below_alloc | apply pw_below_drewN | apply below_drew1 | refine below_set ?_ (IsS161.ge HI602.out) | refine below_set ?_ GE598.out) | exact HB.out)))); replace BK598 := Aside0.mk (KeepBut.blk hk (g' := gb598) kS NB598_602.out (by simp)); replace HB := Aside0.mk (hb); replace HI602 := Aside0.mk (hi); (try clear hb); (try clear hb2); (try clear hk); (try clear hi); (try clear ho0); (try clear ho1); have hnb7 := NB598_602.out; have hnc7 := NB602_598.out; have hz8 := cz4 BK598; obtain ⟨Ao9, co9, eo9⟩ := Kd.S_slice HO607.out; subst eo9; obtain ⟨Ao10, co10, eo10⟩ := Kd.S_slice HO610.out; subst eo10))
 refine bodyPost_ret (results_cell_row rfl _ _ gb598 58 #[.int .i64 t603, .int .i64 t604, .slice Ao9 t605.length co9, .slice Ao10 t608.length co10] (0, 0) _ rfl kS Try.underlying58 rfl (by kernel_rfl)) rfl ?_
 exact ⟨_, _, eS, by exact sT (Kd.S_mono (Kd.S_far (p := ⟨gb598, 3, none⟩) (Kd.S_far (p := ⟨gb598, 2, none⟩) (Kd.S_far (p := ⟨gb598, 1, none⟩) (Kd.S_far (p := ⟨gb598, 0, none⟩) (Kd.S_types HO607.out BK598.out (by decide)) (fun _ hk => hk.2) (.int .i64 t603)) (fun _ hk => hk.2) (.int .i64 t604)) (fun _ hk => hk.2) (.slice Ao9 t605.length co9)) (fun _ hk => hk.2) (.slice Ao10 t608.length co10)) (fun _ hk => trivial)), by exact sT (Kd.S_mono (Kd.S_far (p := ⟨gb598, 3, none⟩) (Kd.S_far (p := ⟨gb598, 2, none⟩) (Kd.S_far (p := ⟨gb598, 1, none⟩) (Kd.S_far (p := ⟨gb598, 0, none⟩) (Kd.S_types HO610.out BK598.out (by decide)) (fun _ hk => hk.2) (.int .i64 t603)) (fun _ hk => hk.2) (.int .i64 t604)) (fun _ hk => hk.2) (.slice Ao9 t605.length co9)) (fun _ hk => hk.2) (.slice Ao10 t608.length co10)) (fun _ hk => trivial)), by repeat (first | (with_reducible first | exact HB.out | apply below_alloc | apply pw_below_drewN | apply below_drew1 | refine below_set ?_ (IsS161.ge HI602.out) | refine below_set ?_ GE598.out) | exact HB.out)⟩

/-! ### impl_pageBox: function 111 -/
def impl_pageBox.f  : Option (Int × Int × Int × Int) := some (0, 0, 32, 32)
theorem impl_pageBox.calls  (r1 : Int) (r2 : Int) (r3 : Int) (r4 : Int) (w : World) (h : impl_pageBox.f  = some (r1, r2, r3, r4)) :
  Calls Try.prog 111 #[] w fun e w' => e = .returned (.agg #[.int .i64 r1, .int .i64 r2, .int .i64 r3, .int .i64 r4]) ∧ Below w.heap.size w w' := by
 have hu43 := Try.underlying43
 have HB := Aside0.mk (Below.refl w.heap.size w)
 have H : (some (0, 0, 32, 32)) = some (r1, r2, r3, r4) := h
 clear h
 obtain ⟨rfl, rfl, rfl, rfl⟩ := sI4 H
 go_enter Try.func111, Try.ntmps111
 go_wp2_with (first | ((with_reducible refine gD 0 ?_); refine bxE #[.int .i64 0, .int .i64 0, .int .i64 0, .int .i64 0] 43 ?_; intro gb613 hg w1 BK613 hb; have GW613 := gE hg; have GE613 := gE hg; replace HB := hB hb; clear hb hg; have hz2 := cz4 BK613))
 refine bodyPost_ret (results_cell_row rfl _ _ gb613 43 #[.int .i64 0, .int .i64 0, .int .i64 32, .int .i64 32] (0, 0) _ rfl kS Try.underlying43 rfl (by kernel_rfl)) rfl ?_
 exact ⟨eS, bS⟩

/-! ### impl_MeetBox: function 153 -/
def impl_MeetBox.j0 : Nat → Bool → Int → Int → Int → Int → Int → Int → Int → Int → Option (Int × Int × Int × Int)
 | 0, _, _, _, _, _, _, _, _, _ => none
 | k + 1, x13, x615000, x615001, x615002, x615003, x616000, x616001, x616002, x616003 => if x13 = true then (some (0, 0, 0, 0)) else (if (mx x615000 x616000) ≥ (mn x615002 x616002) then (some (0, 0, 0, 0)) else (if (mx x615001 x616001) ≥ (mn x615003 x616003) then (some (0, 0, 0, 0)) else (some (mx x615000 x616000, mx x615001 x616001, mn x615002 x616002, mn x615003 x616003))))
def impl_MeetBox.f (k : Nat) (a0_0 : Int) (a0_1 : Int) (a0_2 : Int) (a0_3 : Int) (a1_0 : Int) (a1_1 : Int) (a1_2 : Int) (a1_3 : Int) : Option (Int × Int × Int × Int) := (impl_BoxOk.f a0_0 a0_1 a0_2 a0_3).bind fun t617 => (if t617 = true then ((impl_BoxOk.f a1_0 a1_1 a1_2 a1_3).bind fun t618 => (impl_MeetBox.j0 k (!t618) a0_0 a0_1 a0_2 a0_3 a1_0 a1_1 a1_2 a1_3)) else (impl_MeetBox.j0 k true a0_0 a0_1 a0_2 a0_3 a1_0 a1_1 a1_2 a1_3))
theorem impl_MeetBox.calls (k : Nat) (a0_0 : Int) (a0_1 : Int) (a0_2 : Int) (a0_3 : Int) (a1_0 : Int) (a1_1 : Int) (a1_2 : Int) (a1_3 : Int) (r1 : Int) (r2 : Int) (r3 : Int) (r4 : Int) (w : World) (h : impl_MeetBox.f k a0_0 a0_1 a0_2 a0_3 a1_0 a1_1 a1_2 a1_3 = some (r1, r2, r3, r4)) :
  Calls Try.prog 153 #[.agg #[.int .i64 a0_0, .int .i64 a0_1, .int .i64 a0_2, .int .i64 a0_3], .agg #[.int .i64 a1_0, .int .i64 a1_1, .int .i64 a1_2, .int .i64 a1_3]] w fun e w' => e = .returned (.agg #[.int .i64 r1, .int .i64 r2, .int .i64 r3, .int .i64 r4]) ∧ Below w.heap.size w w' := by
 have hu43 := Try.underlying43
 have HB := Aside0.mk (Below.refl w.heap.size w)
 have H : ((impl_BoxOk.f a0_0 a0_1 a0_2 a0_3).bind fun t617 => (if t617 = true then ((impl_BoxOk.f a1_0 a1_1 a1_2 a1_3).bind fun t618 => (impl_MeetBox.j0 k (!t618) a0_0 a0_1 a0_2 a0_3 a1_0 a1_1 a1_2 a1_3)) else (impl_MeetBox.j0 k true a0_0 a0_1 a0_2 a0_3 a1_0 a1_1 a1_2 a1_3))) = some (r1, r2, r3, r4) := h
 clear h
 have HC3 := Aside0.mk H
 clear H
 go_enter Try.func153, Try.ntmps153
 go_upto_region 1 with (first | ((with_reducible refine gD 2 ?_); refine bxE #[.int .i64 a0_0, .int .i64 a0_1, .int .i64 a0_2, .int .i64 a0_3] 43 ?_; intro gb614 hg w4 BK614 hb; have GW614 := gE hg; have GE614 := gE hg; replace HB := hB hb; clear hb hg) | ((with_reducible refine gD 3 ?_); refine bxE #[.int .i64 a1_0, .int .i64 a1_1, .int .i64 a1_2, .int .i64 a1_3] 43 ?_; intro gb615 hg w5 BK615 hb; have GW615 := gE hg; have GE615 := gE hg; have NB614_615 := nL (g := gb614) hg; have NB615_614 := nG (g := gb614) hg; replace BK614 := kB (g := gb614) hb; replace HB := hB hb; clear hb hg) | ((with_reducible refine gD 4 ?_); refine bxE #[.int .i64 0, .int .i64 0, .int .i64 0, .int .i64 0] 43 ?_; intro gb616 hg w6 BK616 hb; have GW616 := gE hg; have GE616 := gE hg; have NB614_616 := nL (g := gb614) hg; have NB616_614 := nG (g := gb614) hg; have NB615_616 := nL (g := gb615) hg; have NB616_615 := nG (g := gb615) hg; replace BK614 := kB (g := gb614) hb; replace BK615 := kB (g := gb615) hb; replace HB := hB hb; clear hb hg))
 (try simp only [Act.put, List.setIfInBounds_toArray, List.set_cons_zero, List.set_cons_succ])
 go_cut [13] (fun v13 wc => ∃ (kq : Nat) (x13_2 : Bool), v13 = .bool x13_2 ∧ Aside0 (impl_MeetBox.j0 kq x13_2 a0_0 a0_1 a0_2 a0_3 a1_0 a1_1 a1_2 a1_3 = some (r1, r2, r3, r4)) ∧ Aside0 (kq ≤ k) ∧ Aside0 (wc.heap[gb614]? = some (.cells #[.int .i64 a0_0, .int .i64 a0_1, .int .i64 a0_2, .int .i64 a0_3] 43 (0, 0))) ∧ Aside0 (wc.heap[gb615]? = some (.cells #[.int .i64 a1_0, .int .i64 a1_1, .int .i64 a1_2, .int .i64 a1_3] 43 (0, 0))) ∧ Aside0 (wc.heap[gb616]? = some (.cells #[.int .i64 0, .int .i64 0, .int .i64 0, .int .i64 0] 43 (0, 0))) ∧ Aside0 (Below w.heap.size w wc))
 case first =>
  have H := HC3.out
  clear HC3
  replace H := bN H
  obtain ⟨t617, A7, H⟩ := H
  by_cases c8 : t617 = true
  ·subst c8
   rw [if_pos rfl] at H
   replace H := bN H
   obtain ⟨t618, A9, H⟩ := H
   have H' := Aside0.mk H
   clear H
   have hnb10 := NB614_615.out
   have hnc10 := NB615_614.out
   have hnb11 := NB614_616.out
   have hnc11 := NB616_614.out
   have hcz12_0 : w6.cell? ⟨gb614, 0, none⟩ = some (.int .i64 a0_0) := (blk_cell BK614.out 0).trans rfl
   have hcz12_1 : w6.cell? ⟨gb614, 1, none⟩ = some (.int .i64 a0_1) := (blk_cell BK614.out 1).trans rfl
   have hcz12_2 : w6.cell? ⟨gb614, 2, none⟩ = some (.int .i64 a0_2) := (blk_cell BK614.out 2).trans rfl
   have hcz12_3 : w6.cell? ⟨gb614, 3, none⟩ = some (.int .i64 a0_3) := (blk_cell BK614.out 3).trans rfl
   have hfz12_0 := blk_frozen BK614.out 0
   have hfz12_1 := blk_frozen BK614.out 1
   have hfz12_2 := blk_frozen BK614.out 2
   have hfz12_3 := blk_frozen BK614.out 3
   go_wp2_with (first | ((with_reducible refine gC 152 ?_); refine cL (some 7) Try.func152 #[.agg #[.int .i64 a0_0, .int .i64 a0_1, .int .i64 a0_2, .int .i64 a0_3]] ?_; (with_reducible refine (impl_BoxOk.calls a0_0 a0_1 a0_2 a0_3 _ _ A7.out).mono ?_); rintro e w13 ⟨rfl, hb⟩; refine ⟨_, rfl, ?_⟩; replace BK614 := kB (g := gb614) hb; replace BK615 := kB (g := gb615) hb; replace BK616 := kB (g := gb616) hb; replace HB := hB hb; (try clear hb); (try clear hb2); (try clear hk); (try clear hi); have hnb14 := NB615_616.out; have hnc14 := NB616_615.out; have hcz15_0 : w13.cell? ⟨gb615, 0, none⟩ = some (.int .i64 a1_0) := (blk_cell BK615.out 0).trans rfl; have hcz15_1 : w13.cell? ⟨gb615, 1, none⟩ = some (.int .i64 a1_1) := (blk_cell BK615.out 1).trans rfl; have hcz15_2 : w13.cell? ⟨gb615, 2, none⟩ = some (.int .i64 a1_2) := (blk_cell BK615.out 2).trans rfl; have hcz15_3 : w13.cell? ⟨gb615, 3, none⟩ = some (.int .i64 a1_3) := (blk_cell BK615.out 3).trans rfl; have hfz15_0 := blk_frozen BK615.out 0; have hfz15_1 := blk_frozen BK615.out 1; have hfz15_2 := blk_frozen BK615.out 2; have hfz15_3 := blk_frozen BK615.out 3) | (go_at_call 152; (with_reducible refine (impl_BoxOk.calls a1_0 a1_1 a1_2 a1_3 t618 _ A9.out).mono ?_); rintro e w16 ⟨rfl, hb⟩; replace BK614 := kB (g := gb614) hb; replace BK615 := kB (g := gb615) hb; replace BK616 := kB (g := gb616) hb; replace HB := hB hb; (try clear hb); (try clear hb2); (try clear hk); (try clear hi)))
   go_meet
   case rel => exact ⟨_, (!t618), fS, H', ⟨by first | omega | exact Nat.le_refl _⟩, ⟨kS⟩, ⟨kS⟩, ⟨kS⟩, ⟨bS⟩⟩
  ·obtain rfl := Bool.eq_false_iff.mpr c8
   rw [if_neg nF] at H
   have H' := Aside0.mk H
   clear H
   have hnb17 := NB614_615.out
   have hnc17 := NB615_614.out
   have hnb18 := NB614_616.out
   have hnc18 := NB616_614.out
   have hcz19_0 : w6.cell? ⟨gb614, 0, none⟩ = some (.int .i64 a0_0) := (blk_cell BK614.out 0).trans rfl
   have hcz19_1 : w6.cell? ⟨gb614, 1, none⟩ = some (.int .i64 a0_1) := (blk_cell BK614.out 1).trans rfl
   have hcz19_2 : w6.cell? ⟨gb614, 2, none⟩ = some (.int .i64 a0_2) := (blk_cell BK614.out 2).trans rfl
   have hcz19_3 : w6.cell? ⟨gb614, 3, none⟩ = some (.int .i64 a0_3) := (blk_cell BK614.out 3).trans rfl
   have hfz19_0 := blk_frozen BK614.out 0
   have hfz19_1 := blk_frozen BK614.out 1
   have hfz19_2 := blk_frozen BK614.out 2
   have hfz19_3 := blk_frozen BK614.out 3
   go_wp2_with (first | ((with_reducible refine gC 152 ?_); refine cL (some 7) Try.func152 #[.agg #[.int .i64 a0_0, .int .i64 a0_1, .int .i64 a0_2, .int .i64 a0_3]] ?_; (with_reducible refine (impl_BoxOk.calls a0_0 a0_1 a0_2 a0_3 _ _ A7.out).mono ?_); rintro e w20 ⟨rfl, hb⟩; refine ⟨_, rfl, ?_⟩; replace BK614 := kB (g := gb614) hb; replace BK615 := kB (g := gb615) hb; replace BK616 := kB (g := gb616) hb; replace HB := hB hb; (try clear hb); (try clear hb2); (try clear hk); (try clear hi)))
   go_meet
   case rel => exact ⟨_, (true), fS, H', ⟨by first | omega | exact Nat.le_refl _⟩, ⟨kS⟩, ⟨kS⟩, ⟨kS⟩, ⟨bS⟩⟩
 case rest =>
  clear HC3
  try clear c1
  try clear p2
  try clear c8
  try clear c10
  try clear c11
  try clear c14
  try clear c15
  try clear c17
  try clear c18
  try clear hcz12_0
  try clear hcz12_1
  try clear hcz12_2
  try clear hcz12_3
  try clear hcz15_0
  try clear hcz15_1
  try clear hcz15_2
  try clear hcz15_3
  try clear hcz19_0
  try clear hcz19_1
  try clear hcz19_2
  try clear hcz19_3
  try clear hfz12_0
  try clear hfz12_1
  try clear hfz12_2
  try clear hfz12_3
  try clear hfz15_0
  try clear hfz15_1
  try clear hfz15_2
  try clear hfz15_3
  try clear hfz19_0
  try clear hfz19_1
  try clear hfz19_2
  try clear hfz19_3
  obtain ⟨kq, x13_2, rfl, HA, HJ2, BK614, BK615, BK616, HB⟩ := hcut
  cases kq with
  | zero => exact absurd HA.out (by simp [impl_MeetBox.j0])
  | succ kj2 =>
   have H := HA.out
   clear HA
   simp only [impl_MeetBox.j0] at H
   by_cases c21 : x13_2 = true
   ·subst c21
    rw [if_pos rfl] at H
    obtain ⟨rfl, rfl, rfl, rfl⟩ := sI4 H
    have hnb22 := NB616_614.out
    have hnc22 := NB614_616.out
    have hnb23 := NB616_615.out
    have hnc23 := NB615_616.out
    have hz24 := cz4 BK616
    go_wp2
    refine bodyPost_ret (results_cell_row rfl _ _ gb616 43 #[.int .i64 0, .int .i64 0, .int .i64 0, .int .i64 0] (0, 0) _ rfl kS Try.underlying43 rfl (by kernel_rfl)) rfl ?_
    exact ⟨eS, bS⟩
   ·obtain rfl := Bool.eq_false_iff.mpr c21
    rw [if_neg nF] at H
    obtain ⟨ji25, hji25⟩ : ∃ j_ : Int, (mx a0_0 a1_0) = j_ := ⟨_, rfl⟩
    replace H : (if (ji25) ≥ (mn a0_2 a1_2) then (some (0, 0, 0, 0)) else (if (mx a0_1 a1_1) ≥ (mn a0_3 a1_3) then (some (0, 0, 0, 0)) else (some (ji25, mx a0_1 a1_1, mn a0_2 a1_2, mn a0_3 a1_3)))) = some (r1, r2, r3, r4) := by first | (rw [hji25] at H; exact H) | (simp only [hji25] at H ⊢; exact H)
    have hji25_ : (if a0_0 < a1_0 then a1_0 else a0_0) = ji25 := hji25
    obtain ⟨ji26, hji26⟩ : ∃ j_ : Int, (mx a0_1 a1_1) = j_ := ⟨_, rfl⟩
    replace H : (if (ji25) ≥ (mn a0_2 a1_2) then (some (0, 0, 0, 0)) else (if (ji26) ≥ (mn a0_3 a1_3) then (some (0, 0, 0, 0)) else (some (ji25, ji26, mn a0_2 a1_2, mn a0_3 a1_3)))) = some (r1, r2, r3, r4) := by first | (rw [hji26] at H; exact H) | (simp only [hji26] at H ⊢; exact H)
    have hji26_ : (if a0_1 < a1_1 then a1_1 else a0_1) = ji26 := hji26
    obtain ⟨ji27, hji27⟩ : ∃ j_ : Int, (mn a0_2 a1_2) = j_ := ⟨_, rfl⟩
    replace H : (if (ji25) ≥ (ji27) then (some (0, 0, 0, 0)) else (if (ji26) ≥ (mn a0_3 a1_3) then (some (0, 0, 0, 0)) else (some (ji25, ji26, ji27, mn a0_3 a1_3)))) = some (r1, r2, r3, r4) := by first | (rw [hji27] at H; exact H) | (simp only [hji27] at H ⊢; exact H)
    have hji27_ : (if a1_2 < a0_2 then a1_2 else a0_2) = ji27 := hji27
    obtain ⟨ji28, hji28⟩ : ∃ j_ : Int, (mn a0_3 a1_3) = j_ := ⟨_, rfl⟩
    replace H : (if (ji25) ≥ (ji27) then (some (0, 0, 0, 0)) else (if (ji26) ≥ (ji28) then (some (0, 0, 0, 0)) else (some (ji25, ji26, ji27, ji28)))) = some (r1, r2, r3, r4) := by first | (rw [hji28] at H; exact H) | (simp only [hji28] at H ⊢; exact H)
    have hji28_ : (if a1_3 < a0_3 then a1_3 else a0_3) = ji28 := hji28
    by_cases c29 : (ji25) ≥ (ji27)
    ·rw [if_pos c29] at H
     have c29b0 : decide ((ji27) ≤ (ji25)) = true := decide_eq_true c29
     clear c29
     obtain ⟨rfl, rfl, rfl, rfl⟩ := sI4 H
     have hnb30 := NB614_615.out
     have hnc30 := NB615_614.out
     have hnb31 := NB614_616.out
     have hnc31 := NB616_614.out
     have hz32 := cz4 BK614
     have hnb33 := NB615_616.out
     have hnc33 := NB616_615.out
     have hz34 := cz4 BK615
     go_wp2_with (first | ((with_reducible refine gD 5 ?_); refine bxE #[.int .i64 0, .int .i64 0, .int .i64 0, .int .i64 0] 43 ?_; intro gb619 hg w35 BK619 hb; have GW619 := gE hg; have GE619 := gE hg; have NB614_619 := nL (g := gb614) hg; have NB619_614 := nG (g := gb614) hg; have NB615_619 := nL (g := gb615) hg; have NB619_615 := nG (g := gb615) hg; have NB616_619 := nL (g := gb616) hg; have NB619_616 := nG (g := gb616) hg; replace BK614 := kB (g := gb614) hb; replace BK615 := kB (g := gb615) hb; replace BK616 := kB (g := gb616) hb; replace HB := hB hb; clear hb hg; have hnb36 := NB619_614.out; have hnc36 := NB614_619.out; have hnb37 := NB619_615.out; have hnc37 := NB615_619.out; have hnb38 := NB619_616.out; have hnc38 := NB616_619.out; have hz39 := cz4 BK619; have hz40 := cz4 BK616))
     refine bodyPost_ret (results_cell_row rfl _ _ gb616 43 #[.int .i64 0, .int .i64 0, .int .i64 0, .int .i64 0] (0, 0) _ rfl kS Try.underlying43 rfl (by kernel_rfl)) rfl ?_
     exact ⟨by first | rfl | (simp [errW_none, errW_some] <;> rfl) | (simp only [← hji25, ← hji26, ← hji27, ← hji28]; first | rfl | (simp [errW_none, errW_some] <;> rfl)) | (simp [*, errW_none, errW_some] <;> rfl), bS⟩
    ·rw [if_neg c29] at H
     have c29b0 : decide ((ji27) ≤ (ji25)) = false := decide_eq_false c29
     clear c29
     by_cases c41 : (ji26) ≥ (ji28)
     ·rw [if_pos c41] at H
      have c41b0 : decide ((ji28) ≤ (ji26)) = true := decide_eq_true c41
      clear c41
      obtain ⟨rfl, rfl, rfl, rfl⟩ := sI4 H
      have hnb42 := NB614_615.out
      have hnc42 := NB615_614.out
      have hnb43 := NB614_616.out
      have hnc43 := NB616_614.out
      have hz44 := cz4 BK614
      have hnb45 := NB615_616.out
      have hnc45 := NB616_615.out
      have hz46 := cz4 BK615
      go_wp2_with (first | ((with_reducible refine gD 5 ?_); refine bxE #[.int .i64 0, .int .i64 0, .int .i64 0, .int .i64 0] 43 ?_; intro gb619 hg w47 BK619 hb; have GW619 := gE hg; have GE619 := gE hg; have NB614_619 := nL (g := gb614) hg; have NB619_614 := nG (g := gb614) hg; have NB615_619 := nL (g := gb615) hg; have NB619_615 := nG (g := gb615) hg; have NB616_619 := nL (g := gb616) hg; have NB619_616 := nG (g := gb616) hg; replace BK614 := kB (g := gb614) hb; replace BK615 := kB (g := gb615) hb; replace BK616 := kB (g := gb616) hb; replace HB := hB hb; clear hb hg; have hnb48 := NB619_614.out; have hnc48 := NB614_619.out; have hnb49 := NB619_615.out; have hnc49 := NB615_619.out; have hnb50 := NB619_616.out; have hnc50 := NB616_619.out; have hz51 := cz4 BK619; have hz52 := cz4 BK616))
      refine bodyPost_ret (results_cell_row rfl _ _ gb616 43 #[.int .i64 0, .int .i64 0, .int .i64 0, .int .i64 0] (0, 0) _ rfl kS Try.underlying43 rfl (by kernel_rfl)) rfl ?_
      exact ⟨by first | rfl | (simp [errW_none, errW_some] <;> rfl) | (simp only [← hji25, ← hji26, ← hji27, ← hji28]; first | rfl | (simp [errW_none, errW_some] <;> rfl)) | (simp [*, errW_none, errW_some] <;> rfl), bS⟩
     ·rw [if_neg c41] at H
      have c41b0 : decide ((ji28) ≤ (ji26)) = false := decide_eq_false c41
      clear c41
      obtain ⟨rfl, rfl, rfl, rfl⟩ := sI4 H
      have hnb53 := NB614_615.out
      have hnc53 := NB615_614.out
      have hnb54 := NB614_616.out
      have hnc54 := NB616_614.out
      have hz55 := cz4 BK614
      have hnb56 := NB615_616.out
      have hnc56 := NB616_615.out
      have hz57 := cz4 BK615
      go_wp2_with (first | ((with_reducible refine gD 5 ?_); refine bxE #[.int .i64 0, .int .i64 0, .int .i64 0, .int .i64 0] 43 ?_; intro gb619 hg w58 BK619 hb; have GW619 := gE hg; have GE619 := gE hg; have NB614_619 := nL (g := gb614) hg; have NB619_614 := nG (g := gb614) hg; have NB615_619 := nL (g := gb615) hg; have NB619_615 := nG (g := gb615) hg; have NB616_619 := nL (g := gb616) hg; have NB619_616 := nG (g := gb616) hg; replace BK614 := kB (g := gb614) hb; replace BK615 := kB (g := gb615) hb; replace BK616 := kB (g := gb616) hb; replace HB := hB hb; clear hb hg; have hnb59 := NB619_614.out; have hnc59 := NB614_619.out; have hnb60 := NB619_615.out; have hnc60 := NB615_619.out; have hnb61 := NB619_616.out; have hnc61 := NB616_619.out; have hz62 := cz4 BK619; have hz63 := cz4 BK616))
      refine bodyPost_ret (results_cell_row rfl _ _ gb616 43 #[.int .i64 ji25, .int .i64 ji26, .int .i64 ji27, .int .i64 ji28] (0, 0) _ rfl kS Try.underlying43 rfl (by kernel_rfl)) rfl ?_
      exact ⟨by first | rfl | (simp [errW_none, errW_some] <;> rfl) | (simp only [← hji25, ← hji26, ← hji27, ← hji28]; first | rfl | (simp [errW_none, errW_some] <;> rfl)) | (simp [*, errW_none, errW_some] <;> rfl), bS⟩

end Go.Proofs.Ytigodjcnkgebaaa.QFnMerges
