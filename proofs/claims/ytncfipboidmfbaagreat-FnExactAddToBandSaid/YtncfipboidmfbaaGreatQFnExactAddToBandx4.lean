-- Made out of the translation by a program of this session (a changed copy of the print). Not trusted: Lean checks it.
import Derived.Test.YtncfipboidmfbaaGreatQFnExactAddToBandx0
import Derived.Test.YtncfipboidmfbaaGreatQFnExactAddToBandx2
import Derived.Test.YtncfipboidmfbaaGreatQFnExactAddToBandx3
namespace Go.Proofs.YtncfipboidmfbaaGreat.QFnExactAddToBand
open Go.RowKit Go.Proofs.YtncfipboidmfbaaGreatW.PrintWords Go.Proofs.YtncfipboidmfbaaGreatW.PrintLast Go.Proofs.YtncfipboidmfbaaGreatW.PrintMore
attribute [local go_sem] max2_int min2_int max_two min_two max_three min_three max_four min_four   -- for this text's walks alone
set_option linter.unusedVariables false
set_option linter.unusedSimpArgs false
set_option maxHeartbeats 8000000
set_option maxRecDepth 100000

/-! ### spec_AddToBand: function 21 -/
def spec_AddToBand.j0 : Nat → Bool → Int → Int → List (List Int) → List (S49) → List (S151) → Int → Int → Int → Int → Int → Int → Int → List (List Int) → List (S49) → Option (Int × Int × (List (List Int)) × (List (S49)) × Bool)
 | 0, _, _, _, _, _, _, _, _, _, _, _, _, _, _, _ => none
 | k + 1, x16, x413000, x413001, x413002, x413003, x414000, x414001, x414002, x414003, x414004, x414005, x424000, x424001, x424002, x424003 => if x16 = true then (some (x424000, x424001, x424002, x424003, false)) else ((spec_TouchesBand.f k x414000 x414001 x414002 x414003 x414004 x414005 x413000 x413001).bind fun t426 => (if t426 = true then ((spec_BandCells.f k x413000 x413001 x413002 x413003).bind fun t427 => (if (wrap64 ((wrap64 (t427 + 2)) + (x414000.length : Int))) > 60 then ((spec_MergeBand.f k x413000 x413001 x413002 x413003).bind fun bt428 => ((spec_l07Shape.f x414000 x414001 x414002 x414003 x414004 x414005).bind fun bt436 => (if bt428.2.2.2.length < 2199023255552 then (some (bt428.1, bt428.2.1, bt428.2.2.1, (bt428.2.2.2 ++ [(⟨bt436.1, bt436.2.1, (⟨bt436.2.2.1, bt436.2.2.2.1, bt436.2.2.2.2.1, bt436.2.2.2.2.2⟩ : S47)⟩ : S49)]), true)) else (none)))) else ((spec_l07Shape.f x414000 x414001 x414002 x414003 x414004 x414005).bind fun bt447 => (if x424003.length < 2199023255552 then (some (x424000, x424001, x424002, (x424003 ++ [(⟨bt447.1, bt447.2.1, (⟨bt447.2.2.1, bt447.2.2.2.1, bt447.2.2.2.2.1, bt447.2.2.2.2.2⟩ : S47)⟩ : S49)]), true)) else (none))))) else (some (x424000, x424001, x424002, x424003, true))))
def spec_AddToBand.f (k : Nat) (a0_0 : Int) (a0_1 : Int) (l0_2 : List (List Int)) (l0_3 : List (S49)) (l1_0 : List (S151)) (a1_1 : Int) (a1_2 : Int) (a1_3 : Int) (a1_4 : Int) (a1_5 : Int) : Option (Int × Int × (List (List Int)) × (List (S49)) × Bool) := (spec_l13Copy.f k a0_0 a0_1 l0_2 l0_3).bind fun bt415 => ((spec_BandOk.f k a0_0 a0_1 l0_2 l0_3).bind fun t424 => (if t424 = true then ((spec_ObjectOk.f k l1_0 a1_1 a1_2 a1_3 a1_4 a1_5).bind fun t425 => (spec_AddToBand.j0 k (!t425) a0_0 a0_1 l0_2 l0_3 l1_0 a1_1 a1_2 a1_3 a1_4 a1_5 bt415.1 bt415.2.1 bt415.2.2.1 bt415.2.2.2)) else (spec_AddToBand.j0 k true a0_0 a0_1 l0_2 l0_3 l1_0 a1_1 a1_2 a1_3 a1_4 a1_5 bt415.1 bt415.2.1 bt415.2.2.1 bt415.2.2.2)))
def spec_AddToBand.T6 : Bool × List (List Nat × List Nat) := (true, [([], []), ([0], [0]), ([1], [1]), ([], []), ([3], [3]), ([4], [4]), ([2, 5], [2, 5]), ([6], [6])])
def spec_AddToBand.B6 : List Nat := [0, 1, 3, 0, 8, 24, 63, 127]
theorem spec_AddToBand.tab6 : rtab .any (opsOf Tryz.f21 6) = spec_AddToBand.T6 := by kernel_rfl
theorem spec_AddToBand.bits6 : waitsOk spec_AddToBand.T6.2 spec_AddToBand.B6 = true := by kernel_rfl
def spec_AddToBand.T8 : Bool × List (List Nat × List Nat) := (true, [([], []), ([0], [0]), ([], []), ([2], [2]), ([3], [3]), ([1, 4, 3], [1, 4]), ([0, 1, 2, 3, 4, 5], []), ([6, 5, 5, 0, 1, 2, 3, 4, 5], [5, 6])])
def spec_AddToBand.B8 : List Nat := [0, 1, 0, 4, 12, 31, 63, 127]
theorem spec_AddToBand.tab8 : rtab .any (opsOf Tryz.f21 8) = spec_AddToBand.T8 := by kernel_rfl
theorem spec_AddToBand.bits8 : waitsOk spec_AddToBand.T8.2 spec_AddToBand.B8 = true := by kernel_rfl
theorem spec_AddToBand.calls (k : Nat) (a0_0 : Int) (a0_1 : Int) (A0_2 : Option Addr) (c0_2 : Nat) (l0_2 : List (List Int)) (A0_3 : Option Addr) (c0_3 : Nat) (l0_3 : List (S49)) (A1_0 : Option Addr) (c1_0 : Nat) (l1_0 : List (S151)) (a1_1 : Int) (a1_2 : Int) (a1_3 : Int) (a1_4 : Int) (a1_5 : Int) (r1 : Int) (r2 : Int) (r3 : List (List Int)) (r4 : List (S49)) (r5 : Bool) (w : World) (hr0_2 : Kd.C (Kd.slice 3 (Kd.int .i64)) w A0_2 l0_2.length l0_2) (hc0_2 : l0_2.length ≤ c0_2) (hr0_3 : Kd.C k49 w A0_3 l0_3.length l0_3) (hc0_3 : l0_3.length ≤ c0_3) (hr1_0 : Kd.C k151 w A1_0 l1_0.length l1_0) (hc1_0 : l1_0.length ≤ c1_0) (h : spec_AddToBand.f k a0_0 a0_1 l0_2 l0_3 l1_0 a1_1 a1_2 a1_3 a1_4 a1_5 = some (r1, r2, r3, r4, r5)) :
  Calls Tryz.prog 21 #[.agg #[.int .i64 a0_0, .int .i64 a0_1, .slice A0_2 l0_2.length c0_2, .slice A0_3 l0_3.length c0_3], .agg #[.slice A1_0 l1_0.length c1_0, .int .i64 a1_1, .int .i64 a1_2, .int .i64 a1_3, .int .i64 a1_4, .int .i64 a1_5]] w fun e w' => ∃ v2_ v3_ : Value, e = .returned (.tuple #[.agg #[.int .i64 r1, .int .i64 r2, v2_, v3_], .bool r5]) ∧ Kd.S (Kd.slice 3 (Kd.int .i64)) 54 w' w.heap.size (fun _ => True) v2_ r3 ∧ Kd.S k49 49 w' w.heap.size (fun _ => True) v3_ r4 ∧ Below w.heap.size w w' := by
 have hu30 := Tryz.underlying30
 have hu49 := Tryz.underlying49
 have HR0_2 := aM hr0_2
 have HC0_2 := aM hc0_2
 clear hr0_2 hc0_2
 have HR0_3 := aM hr0_3
 have HC0_3 := aM hc0_3
 clear hr0_3 hc0_3
 have HR1_0 := aM hr1_0
 have HC1_0 := aM hc1_0
 clear hr1_0 hc1_0
 have HB := aM (Below.refl w.heap.size w)
 have H := h
 clear h
 unfold spec_AddToBand.f at H
 replace H := bN H
 obtain ⟨⟨t415, t416, t417, t420⟩, A3, H⟩ := H
 have HC4 := aM H
 clear H
 go_enter Tryz.func21, Tryz.ntmps21
 go_upto_region 2 with (first | ((with_reducible refine gD 2 ?_); refine bxE #[.int .i64 a0_0, .int .i64 a0_1, .slice A0_2 l0_2.length c0_2, .slice A0_3 l0_3.length c0_3] 30 ?_; intro gb412 hg w5 BK412 hb; have GW412 := gE hg; have GE412 := gE hg; replace HB := hB hb; clear hb hg) | ((with_reducible refine gD 3 ?_); refine bxE #[.slice A1_0 l1_0.length c1_0, .int .i64 a1_1, .int .i64 a1_2, .int .i64 a1_3, .int .i64 a1_4, .int .i64 a1_5] 49 ?_; intro gb413 hg w6 BK413 hb; have GW413 := gE hg; have GE413 := gE hg; have NB412_413 := nL_ gb412 hg; have NB413_412 := nG_ gb412 hg; replace BK412 := kB_ gb412 hb; replace HB := hB hb; clear hb hg) | ((with_reducible refine gD 4 ?_); refine bxE #[.int .i64 0, .int .i64 0, .slice none 0 0, .slice none 0 0] 30 ?_; intro gb414 hg w7 BK414 hb; have GW414 := gE hg; have GE414 := gE hg; have NB412_414 := nL_ gb412 hg; have NB414_412 := nG_ gb412 hg; have NB413_414 := nL_ gb413 hg; have NB414_413 := nG_ gb413 hg; replace BK412 := kB_ gb412 hb; replace BK413 := kB_ gb413 hb; replace HB := hB hb; clear hb hg; have hnb8 := NB412_413.out; have hnc8 := NB413_412.out; have hnb9 := NB412_414.out; have hnc9 := NB414_412.out; have hcz10_0 := cg0 BK412; have hcz10_1 := cg1 BK412; have hcz10_2 := cg2 BK412; have hcz10_3 := cg3 BK412; have hfz10_0 := blk_frozen BK412.out 0; have hfz10_1 := blk_frozen BK412.out 1; have hfz10_2 := blk_frozen BK412.out 2; have hfz10_3 := blk_frozen BK412.out 3) | ((with_reducible refine gC 52 ?_); refine cM (some 8) Tryz.func52 (spec_l13Copy.calls k a0_0 a0_1 _ _ l0_2 _ _ l0_3 t415 t416 t417 t420 _ (cC HR0_2 HB) HC0_2.out (cC HR0_3 HB) HC0_3.out A3.out) ?_; rintro e w11 ⟨v418, v421, rfl, ho0, ho1, hb⟩; refine ⟨_, rfl, ?_⟩; have HO419 := aM (Kd.S_lower ho0 (below_size bS)); have HO422 := aM (Kd.S_lower (Kd.S_newB ho1 (g := gb413) kS) (below_size bS)); replace BK412 := kB_ gb412 hb; replace BK413 := kB_ gb413 hb; replace BK414 := kB_ gb414 hb; replace HB := hB hb; (try clear hb ho0 ho1)) | ((with_reducible refine gD 6 ?_); refine bxE #[.int .i64 0, .int .i64 0, .slice none 0 0, .slice none 0 0] 30 ?_; intro gb423 hg w12 BK423 hb; have GW423 := gE hg; have GE423 := gE hg; have NB412_423 := nL_ gb412 hg; have NB423_412 := nG_ gb412 hg; have NB413_423 := nL_ gb413 hg; have NB423_413 := nG_ gb413 hg; have NB414_423 := nL_ gb414 hg; have NB423_414 := nG_ gb414 hg; replace HO419 := sB HO419 hb; replace HO422 := sB HO422 hb; replace BK412 := kB_ gb412 hb; replace BK413 := kB_ gb413 hb; replace BK414 := kB_ gb414 hb; replace HB := hB hb; clear hb hg; have hnb13 := NB423_412.out; have hnc13 := NB412_423.out; have hnb14 := NB423_413.out; have hnc14 := NB413_423.out; have hnb15 := NB423_414.out; have hnc15 := NB414_423.out; have hcz16_0 := cg0 BK423; have hcz16_1 := cg1 BK423; have hcz16_2 := cg2 BK423; have hcz16_3 := cg3 BK423; have hfz16_0 := blk_frozen BK423.out 0; have hfz16_1 := blk_frozen BK423.out 1; have hfz16_2 := blk_frozen BK423.out 2; have hfz16_3 := blk_frozen BK423.out 3; obtain ⟨Ao17, co17, eo17⟩ := Kd.S_slice HO419.out; subst eo17; obtain ⟨Ao18, co18, eo18⟩ := Kd.S_slice HO422.out; subst eo18))
 (try simp only [Act.put, List.setIfInBounds_toArray, List.set_cons_zero, List.set_cons_succ])
 go_cut [16] (fun v16 wc => ∃ (kq : Nat) (x16_3 : Bool), v16 = .bool x16_3 ∧ Aside0 (spec_AddToBand.j0 kq x16_3 a0_0 a0_1 l0_2 l0_3 l1_0 a1_1 a1_2 a1_3 a1_4 a1_5 t415 t416 t417 t420 = some (r1, r2, r3, r4, r5)) ∧ Aside0 (kq ≤ k) ∧ Aside0 (Kd.S (Kd.slice 3 (Kd.int .i64)) 54 wc w.heap.size (fun _ => True) (.slice Ao17 t417.length co17) t417) ∧ Aside0 (Kd.S k49 49 wc w.heap.size (fun k_ => k_ ≠ gb413) (.slice Ao18 t420.length co18) t420) ∧ Aside0 (wc.heap[gb412]? = some (.cells #[.int .i64 a0_0, .int .i64 a0_1, (.slice A0_2 l0_2.length c0_2), (.slice A0_3 l0_3.length c0_3)] 30 (0, 0))) ∧ Aside0 (wc.heap[gb413]? = some (.cells #[(.slice A1_0 l1_0.length c1_0), .int .i64 a1_1, .int .i64 a1_2, .int .i64 a1_3, .int .i64 a1_4, .int .i64 a1_5] 49 (0, 0))) ∧ Aside0 (wc.heap[gb414]? = some (.cells #[.int .i64 0, .int .i64 0, (.slice none 0 0), (.slice none 0 0)] 30 (0, 0))) ∧ Aside0 (wc.heap[gb423]? = some (.cells #[.int .i64 t415, .int .i64 t416, (.slice Ao17 t417.length co17), (.slice Ao18 t420.length co18)] 30 (0, 0))) ∧ Aside0 (Below w.heap.size w wc))
 case first =>
  have H := HC4.out
  clear HC4
  replace H := bN H
  obtain ⟨t424, A19, H⟩ := H
  by_cases c20 : t424 = true
  ·subst c20
   rw [if_pos rfl] at H
   replace H := bN H
   obtain ⟨t425, A21, H⟩ := H
   have H' := aM H
   clear H
   have hnb22 := NB412_413.out
   have hnc22 := NB413_412.out
   have hnb23 := NB412_414.out
   have hnc23 := NB414_412.out
   have hnb24 := NB412_423.out
   have hnc24 := NB423_412.out
   have hcz25_0 := cg0 BK412
   have hcz25_1 := cg1 BK412
   have hcz25_2 := cg2 BK412
   have hcz25_3 := cg3 BK412
   have hfz25_0 := blk_frozen BK412.out 0
   have hfz25_1 := blk_frozen BK412.out 1
   have hfz25_2 := blk_frozen BK412.out 2
   have hfz25_3 := blk_frozen BK412.out 3
   go_wp2_with (first | ((with_reducible refine gC 43 ?_); refine cM (some 10) Tryz.func43 (spec_BandOk.calls k a0_0 a0_1 _ _ l0_2 _ _ l0_3 _ _ (Kd.C_below HR0_2.out bS) HC0_2.out (Kd.C_below HR0_3.out bS) HC0_3.out A19.out) ?_; rintro e w26 ⟨rfl, hb⟩; refine ⟨_, rfl, ?_⟩; replace HO419 := aM (Kd.S_below (by exact sG HO419 BK423) hb); replace HO422 := aM (Kd.S_below (by exact sG HO422 BK423) hb); replace BK412 := kB_ gb412 hb; replace BK413 := kB_ gb413 hb; replace BK414 := kB_ gb414 hb; replace BK423 := kO gb423 #[.int .i64 t415, .int .i64 t416, .slice Ao17 t417.length co17, .slice Ao18 t420.length co18] 30 hb; replace HB := hB hb; (try clear hb hk); have hnb27 := NB413_414.out; have hnc27 := NB414_413.out; have hnb28 := NB413_423.out; have hnc28 := NB423_413.out; have hcz29_0 := cg0 BK413; have hcz29_1 := cg1 BK413; have hcz29_2 := cg2 BK413; have hcz29_3 := cg3 BK413; have hcz29_4 := cg4 BK413; have hcz29_5 := cg5 BK413; have hfz29_0 := blk_frozen BK413.out 0; have hfz29_1 := blk_frozen BK413.out 1; have hfz29_2 := blk_frozen BK413.out 2; have hfz29_3 := blk_frozen BK413.out 3; have hfz29_4 := blk_frozen BK413.out 4; have hfz29_5 := blk_frozen BK413.out 5) | (go_at_call 58; (with_reducible refine (spec_ObjectOk.calls k _ _ l1_0 a1_1 a1_2 a1_3 a1_4 a1_5 t425 _ (cC HR1_0 HB) HC1_0.out A21.out).mono ?_); rintro e w30 ⟨rfl, hb⟩; replace HO419 := sB HO419 hb; replace HO422 := sB HO422 hb; replace BK412 := kB_ gb412 hb; replace BK413 := kB_ gb413 hb; replace BK414 := kB_ gb414 hb; replace BK423 := kB_ gb423 hb; replace HB := hB hb; (try clear hb)))
   go_meet
   case rel => exact ⟨_, (!t425), fS, H', ⟨by first | omega | exact Nat.le_refl _⟩, ⟨sS HO419⟩, ⟨by exact sT (Kd.S_mono HO422.out (fun _ hk => hk.2))⟩, ⟨kS⟩, ⟨kS⟩, ⟨kS⟩, ⟨kS⟩, ⟨bS⟩⟩
  ·obtain rfl := Bool.eq_false_iff.mpr c20
   rw [if_neg nF] at H
   have H' := aM H
   clear H
   have hnb31 := NB412_413.out
   have hnc31 := NB413_412.out
   have hnb32 := NB412_414.out
   have hnc32 := NB414_412.out
   have hnb33 := NB412_423.out
   have hnc33 := NB423_412.out
   have hcz34_0 := cg0 BK412
   have hcz34_1 := cg1 BK412
   have hcz34_2 := cg2 BK412
   have hcz34_3 := cg3 BK412
   have hfz34_0 := blk_frozen BK412.out 0
   have hfz34_1 := blk_frozen BK412.out 1
   have hfz34_2 := blk_frozen BK412.out 2
   have hfz34_3 := blk_frozen BK412.out 3
   go_wp2_with (first | ((with_reducible refine gC 43 ?_); refine cM (some 10) Tryz.func43 (spec_BandOk.calls k a0_0 a0_1 _ _ l0_2 _ _ l0_3 _ _ (Kd.C_below HR0_2.out bS) HC0_2.out (Kd.C_below HR0_3.out bS) HC0_3.out A19.out) ?_; rintro e w35 ⟨rfl, hb⟩; refine ⟨_, rfl, ?_⟩; replace HO419 := aM (Kd.S_below (by exact sG HO419 BK423) hb); replace HO422 := aM (Kd.S_below (by exact sG HO422 BK423) hb); replace BK412 := kB_ gb412 hb; replace BK413 := kB_ gb413 hb; replace BK414 := kB_ gb414 hb; replace BK423 := kO gb423 #[.int .i64 t415, .int .i64 t416, .slice Ao17 t417.length co17, .slice Ao18 t420.length co18] 30 hb; replace HB := hB hb; (try clear hb hk)))
   go_meet
   case rel => exact ⟨_, (true), fS, H', ⟨by first | omega | exact Nat.le_refl _⟩, ⟨sS HO419⟩, ⟨by exact sT (Kd.S_mono HO422.out (fun _ hk => hk.2))⟩, ⟨kS⟩, ⟨kS⟩, ⟨kS⟩, ⟨kS⟩, ⟨bS⟩⟩
 case rest =>
  clear HC4
  try clear c1
  try clear c2
  try clear p2
  try clear c3
  try clear c4
  try clear c5
  try clear c8
  try clear c9
  try clear c13
  try clear c14
  try clear c15
  try clear c20
  try clear c21
  try clear c22
  try clear c23
  try clear c24
  try clear c27
  try clear c28
  try clear c31
  try clear c32
  try clear c33
  obtain ⟨kq, x16_3, rfl, HA, HJ3, HO_424002, HO_424003, BK412, BK413, BK414, BK423, HB⟩ := hcut
  cases kq with
  | zero => exact absurd HA.out (by simp [spec_AddToBand.j0])
  | succ kj3 =>
   have H := HA.out
   clear HA
   simp only [spec_AddToBand.j0] at H
   by_cases c36 : x16_3 = true
   ·subst c36
    rw [if_pos rfl] at H
    obtain ⟨rfl, rfl, rfl, rfl, rfl⟩ := sI5 H
    have hnb37 := NB423_412.out
    have hnc37 := NB412_423.out
    have hnb38 := NB423_413.out
    have hnc38 := NB413_423.out
    have hnb39 := NB423_414.out
    have hnc39 := NB414_423.out
    have hz40 := cz4 BK423
    have hnb41 := NB414_412.out
    have hnc41 := NB412_414.out
    have hnb42 := NB414_413.out
    have hnc42 := NB413_414.out
    have hz43 := cz4 BK414
    go_wp2
    refine bodyPost_ret (results_ct rfl _ _ gb414 30 #[.int .i64 t415, .int .i64 t416, .slice Ao17 t417.length co17, .slice Ao18 t420.length co18] (0, 0) _ rfl kS Tryz.underlying30 rfl (by kernel_rfl)) rfl ?_
    exact ⟨_, _, eS, by exact sT (Kd.S_mono (Kd.S_far (p := ⟨gb414, 3, none⟩) (Kd.S_far (p := ⟨gb414, 2, none⟩) (Kd.S_far (p := ⟨gb414, 1, none⟩) (Kd.S_far (p := ⟨gb414, 0, none⟩) (Kd.S_types HO_424002.out BK414.out (by decide)) (fun _ hk => hk.2) (.int .i64 t415)) (fun _ hk => hk.2) (.int .i64 t416)) (fun _ hk => hk.2) (.slice Ao17 t417.length co17)) (fun _ hk => hk.2) (.slice Ao18 t420.length co18)) (fun _ hk => trivial)), by exact sT (Kd.S_mono (Kd.S_far (p := ⟨gb414, 3, none⟩) (Kd.S_far (p := ⟨gb414, 2, none⟩) (Kd.S_far (p := ⟨gb414, 1, none⟩) (Kd.S_far (p := ⟨gb414, 0, none⟩) (Kd.S_types HO_424003.out BK414.out (by decide)) (fun _ hk => hk.2) (.int .i64 t415)) (fun _ hk => hk.2) (.int .i64 t416)) (fun _ hk => hk.2) (.slice Ao17 t417.length co17)) (fun _ hk => hk.2) (.slice Ao18 t420.length co18)) (fun _ hk => trivial)), bS⟩
   ·obtain rfl := Bool.eq_false_iff.mpr c36
    rw [if_neg nF] at H
    replace H := bN H
    obtain ⟨t426, A44, H⟩ := H
    by_cases c45 : t426 = true
    ·subst c45
     rw [if_pos rfl] at H
     replace H := bN H
     obtain ⟨t427, A46, H⟩ := H
     by_cases c47 : (wrap64 ((wrap64 (t427 + 2)) + (l1_0.length : Int))) > 60
     ·rw [if_pos c47] at H
      have c47b0 : decide (60 < (wrap64 ((wrap64 (t427 + 2)) + (l1_0.length : Int)))) = true := decide_eq_true c47
      clear c47
      replace H := bN H
      obtain ⟨⟨t428, t429, t430, t433⟩, A48, H⟩ := H
      replace H := bN H
      obtain ⟨⟨t436, t439, t440, t441, t442, t443⟩, A49, H⟩ := H
      obtain ⟨LMc50, H⟩ := iL H
      obtain ⟨y444, hy_⟩ : ∃ y_ : List (S49), y_ = (t433 ++ [(⟨t436, t439, (⟨t440, t441, t442, t443⟩ : S47)⟩ : S49)]) := ⟨_, rfl⟩
      replace H : (some (t428, t429, t430, y444, true)) = some (r1, r2, r3, r4, r5) := yS
      have Ny444 := aM hy_
      clear hy_
      obtain ⟨rfl, rfl, rfl, rfl, rfl⟩ := sI5 H
      have hnb51 := NB413_412.out
      have hnc51 := NB412_413.out
      have hnb52 := NB413_414.out
      have hnc52 := NB414_413.out
      have hnb53 := NB413_423.out
      have hnc53 := NB423_413.out
      have hz54 := cz6 BK413
      have hnb55 := NB412_414.out
      have hnc55 := NB414_412.out
      have hnb56 := NB412_423.out
      have hnc56 := NB423_412.out
      have hz57 := cz4 BK412
      try go_wp2_with (first | ((with_reducible refine gC 59 ?_); refine cM (some 23) Tryz.func59 (spec_TouchesBand.calls kj3 _ _ l1_0 a1_1 a1_2 a1_3 a1_4 a1_5 a0_0 a0_1 _ _ (cC HR1_0 HB) HC1_0.out A44.out) ?_; rintro e w58 ⟨rfl, hb⟩; refine ⟨_, rfl, ?_⟩; replace HO_424002 := sB HO_424002 hb; replace HO_424003 := sB HO_424003 hb; replace BK412 := kB_ gb412 hb; replace BK413 := kB_ gb413 hb; replace BK414 := kB_ gb414 hb; replace BK423 := kB_ gb423 hb; replace HB := hB hb; (try clear hb)))
      replace HO_424002 := aM (Kd.S_drew HO_424002.out)
      replace HO_424003 := aM (Kd.S_drew HO_424003.out)
      replace BK412 := aM (blk_drew BK412.out)
      replace BK413 := aM (blk_drew BK413.out)
      replace BK414 := aM (blk_drew BK414.out)
      replace BK423 := aM (blk_drew BK423.out)
      replace HB := aM (below_drew1 HB.out)
      refine start_ (n := 8) (S := fun w' => w'.cell? ⟨gb412, 0, none⟩ = some (.int .i64 a0_0) ∧ w'.cell? ⟨gb412, 1, none⟩ = some (.int .i64 a0_1) ∧ w'.cell? ⟨gb412, 2, none⟩ = some (.slice A0_2 l0_2.length c0_2) ∧ w'.cell? ⟨gb412, 3, none⟩ = some (.slice A0_3 l0_3.length c0_3) ∧ w'.cell? ⟨gb413, 0, none⟩ = some (.slice A1_0 l1_0.length c1_0) ∧ w'.cell? ⟨gb413, 1, none⟩ = some (.int .i64 a1_1) ∧ w'.cell? ⟨gb413, 2, none⟩ = some (.int .i64 a1_2) ∧ w'.cell? ⟨gb413, 3, none⟩ = some (.int .i64 a1_3) ∧ w'.cell? ⟨gb413, 4, none⟩ = some (.int .i64 a1_4) ∧ w'.cell? ⟨gb413, 5, none⟩ = some (.int .i64 a1_5)) (ds := []) (mB 8 0) (by kernel_rfl) rfl rfl (cx4 BK412 (cy6 BK413)) (fun hHeld => ?_); refine with_tabW spec_AddToBand.tab6 spec_AddToBand.bits6 (fun HT_ HW_ => ?_)
      generalize w58.drew = w59 at HO_424002 HO_424003 BK412 BK413 BK414 BK423 HB hHeld ⊢
      refine pU 3 (some 29) (mB 8 8) ?_
      refine tK 0 (some 26) (mB 8 9) ?_
      refine tK 4 (some 30) (mB 8 25) ?_
      refine pU 5 (some 31) (mB 8 57) ?_
      refine one_ (i := 1) (N := some 27) (mB 8 59) rfl rfl (one_of HT_.out (by kernel_rfl)) (by decide) (fun K hK => ?_)
      refine goes_ Tryz.func60 (by kernel_rfl) rfl #[.agg #[.int .i64 a0_0, .int .i64 a0_1, .slice A0_2 l0_2.length c0_2, .slice A0_3 l0_3.length c0_3]] (by rfl) rfl rfl mA ?_
      with_reducible refine (spec_BandCells.calls kj3 a0_0 a0_1 _ _ l0_2 _ _ l0_3 t427 _ ?side1 ?side2 ?side3 ?side4 A46.out).mono ?_
      (case side1 => exact cS (Kd.C_below HR0_2.out HB.out))
      (case side2 => exact HC0_2.out)
      (case side3 => exact cS (Kd.C_below HR0_3.out HB.out))
      (case side4 => exact HC0_3.out)
      rintro e w60 ⟨rfl, hb⟩
      refine ⟨_, rfl, ?_⟩
      replace HO_424002 := sB HO_424002 hb
      replace HO_424003 := sB HO_424003 hb
      replace BK412 := kB_ gb412 hb
      replace BK413 := kB_ gb413 hb
      replace BK414 := kB_ gb414 hb
      replace BK423 := kB_ gb423 hb
      replace HB := hB hb
      (try clear hb)
      (try clear hb2)
      (try clear hk)
      (try clear hi)
      refine hK.out _ _ (cx4 BK412 (cy6 BK413)) (fun hHeld => ?_)
      clear hK K
      refine norm_ (a' := ?_) ?_ ?_
      rotate_left
      ·show Act.put _ (some 27) _ = _
       simp only [Act.put, List.setIfInBounds_toArray, List.set_cons_zero, List.set_cons_succ, i64_w, i32_w]
       rfl
      refine pU 2 (some 28) (mB 8 63) ?_
      refine pU 6 (some 32) (mB 8 127) ?_
      refine pU 7 (some 33) (mB 8 255) ?_
      refine done_ (done_of HT_.out (by kernel_rfl)) ?_
      have hz61 := cz4 BK412
      try go_wp2_with (first | ((with_reducible refine gC 17 ?_); refine cM (some 35) Tryz.func17 (spec_MergeBand.calls kj3 a0_0 a0_1 _ _ l0_2 _ _ l0_3 t428 t429 t430 t433 _ (cC HR0_2 HB) HC0_2.out (cC HR0_3 HB) HC0_3.out A48.out) ?_; rintro e w62 ⟨v431, v434, rfl, ho0, ho1, hb⟩; refine ⟨_, rfl, ?_⟩; have HO432 := aM (Kd.S_lower (Kd.S_new' ho0 (Kd.S_lt (sS HO_424002))) (below_size bS)); have HO435 := aM (Kd.S_lower (Kd.S_newB (Kd.S_new' ho1 (Kd.S_lt (sS HO_424003))) (g := gb413) kS) (below_size bS)); replace HO_424002 := aM (Kd.S_elder' (sS HO_424002) (Kd.S_base ho0) hb); replace HO_424003 := aM (Kd.S_elder' (sS HO_424003) (Kd.S_base ho1) hb); replace BK412 := kB_ gb412 hb; replace BK413 := kB_ gb413 hb; replace BK414 := kB_ gb414 hb; replace BK423 := kB_ gb423 hb; replace HB := hB hb; (try clear hb ho0 ho1); have hnb63 := NB423_414.out; have hnc63 := NB414_423.out; have hz64 := cz4 BK423; obtain ⟨Ao65, co65, eo65⟩ := Kd.S_slice HO432.out; subst eo65; obtain ⟨Ao66, co66, eo66⟩ := Kd.S_slice HO435.out; subst eo66))
      have n0_ : Aside0 (Kd.S (Kd.slice 3 (Kd.int .i64)) 54 ((((w62.setCell ⟨gb423, 0, none⟩ (.int .i64 t428)).setCell ⟨gb423, 1, none⟩ (.int .i64 t429)).setCell ⟨gb423, 2, none⟩ (.slice Ao65 t430.length co65)).setCell ⟨gb423, 3, none⟩ (.slice Ao66 t433.length co66)) w.heap.size (fun k_ => some k_ ≠ (.slice Ao65 t430.length co65 : Value).ownBlock) (.slice Ao17 t417.length co17) t417) := ⟨by exact sT (Kd.S_mono (Kd.S_far (p := ⟨gb423, 3, none⟩) (Kd.S_far (p := ⟨gb423, 2, none⟩) (Kd.S_far (p := ⟨gb423, 1, none⟩) (Kd.S_far (p := ⟨gb423, 0, none⟩) (Kd.S_types HO_424002.out BK423.out (by decide)) (fun _ hk => hk.2) (.int .i64 t428)) (fun _ hk => hk.2) (.int .i64 t429)) (fun _ hk => hk.2) (.slice Ao65 t430.length co65)) (fun _ hk => hk.2) (.slice Ao66 t433.length co66)) (fun _ hk => hk.1.2))⟩
      have n1_ : Aside0 (Kd.S k49 49 ((((w62.setCell ⟨gb423, 0, none⟩ (.int .i64 t428)).setCell ⟨gb423, 1, none⟩ (.int .i64 t429)).setCell ⟨gb423, 2, none⟩ (.slice Ao65 t430.length co65)).setCell ⟨gb423, 3, none⟩ (.slice Ao66 t433.length co66)) w.heap.size (fun k_ => some k_ ≠ (.slice Ao66 t433.length co66 : Value).ownBlock ∧ k_ ≠ gb413) (.slice Ao18 t420.length co18) t420) := ⟨by exact sT (Kd.S_mono (Kd.S_far (p := ⟨gb423, 3, none⟩) (Kd.S_far (p := ⟨gb423, 2, none⟩) (Kd.S_far (p := ⟨gb423, 1, none⟩) (Kd.S_far (p := ⟨gb423, 0, none⟩) (Kd.S_types HO_424003.out BK423.out (by decide)) (fun _ hk => hk.2) (.int .i64 t428)) (fun _ hk => hk.2) (.int .i64 t429)) (fun _ hk => hk.2) (.slice Ao65 t430.length co65)) (fun _ hk => hk.2) (.slice Ao66 t433.length co66)) (fun _ hk => ⟨hk.1.2, hk.1.1⟩))⟩
      have n2_ : Aside0 (Kd.S (Kd.slice 3 (Kd.int .i64)) 54 ((((w62.setCell ⟨gb423, 0, none⟩ (.int .i64 t428)).setCell ⟨gb423, 1, none⟩ (.int .i64 t429)).setCell ⟨gb423, 2, none⟩ (.slice Ao65 t430.length co65)).setCell ⟨gb423, 3, none⟩ (.slice Ao66 t433.length co66)) w.heap.size (fun k_ => some k_ ≠ (.slice Ao17 t417.length co17 : Value).ownBlock) (.slice Ao65 t430.length co65) t430) := ⟨by exact sT (Kd.S_mono (Kd.S_far (p := ⟨gb423, 3, none⟩) (Kd.S_far (p := ⟨gb423, 2, none⟩) (Kd.S_far (p := ⟨gb423, 1, none⟩) (Kd.S_far (p := ⟨gb423, 0, none⟩) (Kd.S_types HO432.out BK423.out (by decide)) (fun _ hk => hk.2) (.int .i64 t428)) (fun _ hk => hk.2) (.int .i64 t429)) (fun _ hk => hk.2) (.slice Ao65 t430.length co65)) (fun _ hk => hk.2) (.slice Ao66 t433.length co66)) (fun _ hk => hk.1.2))⟩
      have n3_ : Aside0 (Kd.S k49 49 ((((w62.setCell ⟨gb423, 0, none⟩ (.int .i64 t428)).setCell ⟨gb423, 1, none⟩ (.int .i64 t429)).setCell ⟨gb423, 2, none⟩ (.slice Ao65 t430.length co65)).setCell ⟨gb423, 3, none⟩ (.slice Ao66 t433.length co66)) w.heap.size (fun k_ => some k_ ≠ (.slice Ao18 t420.length co18 : Value).ownBlock ∧ k_ ≠ gb413) (.slice Ao66 t433.length co66) t433) := ⟨by exact sT (Kd.S_mono (Kd.S_far (p := ⟨gb423, 3, none⟩) (Kd.S_far (p := ⟨gb423, 2, none⟩) (Kd.S_far (p := ⟨gb423, 1, none⟩) (Kd.S_far (p := ⟨gb423, 0, none⟩) (Kd.S_types HO435.out BK423.out (by decide)) (fun _ hk => hk.2) (.int .i64 t428)) (fun _ hk => hk.2) (.int .i64 t429)) (fun _ hk => hk.2) (.slice Ao65 t430.length co65)) (fun _ hk => hk.2) (.slice Ao66 t433.length co66)) (fun _ hk => ⟨hk.1.1.2, hk.1.2⟩))⟩
      have n4_ : Aside0 (((((w62.setCell ⟨gb423, 0, none⟩ (.int .i64 t428)).setCell ⟨gb423, 1, none⟩ (.int .i64 t429)).setCell ⟨gb423, 2, none⟩ (.slice Ao65 t430.length co65)).setCell ⟨gb423, 3, none⟩ (.slice Ao66 t433.length co66)).heap[gb412]? = some (.cells #[.int .i64 a0_0, .int .i64 a0_1, .slice A0_2 l0_2.length c0_2, .slice A0_3 l0_3.length c0_3] 30 (0, 0))) := ⟨kS⟩
      have n5_ : Aside0 (((((w62.setCell ⟨gb423, 0, none⟩ (.int .i64 t428)).setCell ⟨gb423, 1, none⟩ (.int .i64 t429)).setCell ⟨gb423, 2, none⟩ (.slice Ao65 t430.length co65)).setCell ⟨gb423, 3, none⟩ (.slice Ao66 t433.length co66)).heap[gb413]? = some (.cells #[.slice A1_0 l1_0.length c1_0, .int .i64 a1_1, .int .i64 a1_2, .int .i64 a1_3, .int .i64 a1_4, .int .i64 a1_5] 49 (0, 0))) := ⟨kS⟩
      have n6_ : Aside0 (((((w62.setCell ⟨gb423, 0, none⟩ (.int .i64 t428)).setCell ⟨gb423, 1, none⟩ (.int .i64 t429)).setCell ⟨gb423, 2, none⟩ (.slice Ao65 t430.length co65)).setCell ⟨gb423, 3, none⟩ (.slice Ao66 t433.length co66)).heap[gb414]? = some (.cells #[.int .i64 0, .int .i64 0, .slice none 0 0, .slice none 0 0] 30 (0, 0))) := ⟨kS⟩
      have n7_ : Aside0 (((((w62.setCell ⟨gb423, 0, none⟩ (.int .i64 t428)).setCell ⟨gb423, 1, none⟩ (.int .i64 t429)).setCell ⟨gb423, 2, none⟩ (.slice Ao65 t430.length co65)).setCell ⟨gb423, 3, none⟩ (.slice Ao66 t433.length co66)).heap[gb423]? = some (.cells #[.int .i64 t428, .int .i64 t429, .slice Ao65 t430.length co65, .slice Ao66 t433.length co66] 30 (0, 0))) := ⟨kS⟩
      have n8_ : Aside0 (Below w.heap.size w ((((w62.setCell ⟨gb423, 0, none⟩ (.int .i64 t428)).setCell ⟨gb423, 1, none⟩ (.int .i64 t429)).setCell ⟨gb423, 2, none⟩ (.slice Ao65 t430.length co65)).setCell ⟨gb423, 3, none⟩ (.slice Ao66 t433.length co66))) := ⟨bS⟩
      (try clear HO_424002)
      (try clear HO_424003)
      (try clear HO432)
      (try clear HO435)
      (try clear BK412)
      (try clear BK413)
      (try clear BK414)
      (try clear BK423)
      (try clear HB)
      generalize ((((w62.setCell ⟨gb423, 0, none⟩ (.int .i64 t428)).setCell ⟨gb423, 1, none⟩ (.int .i64 t429)).setCell ⟨gb423, 2, none⟩ (.slice Ao65 t430.length co65)).setCell ⟨gb423, 3, none⟩ (.slice Ao66 t433.length co66)) = w67 at n0_ n1_ n2_ n3_ n4_ n5_ n6_ n7_ n8_ ⊢
      have HO_424002 := n0_
      have HO_424003 := n1_
      have HO432 := n2_
      have HO435 := n3_
      have BK412 := n4_
      have BK413 := n5_
      have BK414 := n6_
      have BK423 := n7_
      have HB := n8_
      clear n0_ n1_ n2_ n3_ n4_ n5_ n6_ n7_ n8_
      replace HO_424002 := aM (Kd.S_drew HO_424002.out)
      replace HO_424003 := aM (Kd.S_drew HO_424003.out)
      replace HO432 := aM (Kd.S_drew HO432.out)
      replace HO435 := aM (Kd.S_drew HO435.out)
      replace BK412 := aM (blk_drew BK412.out)
      replace BK413 := aM (blk_drew BK413.out)
      replace BK414 := aM (blk_drew BK414.out)
      replace BK423 := aM (blk_drew BK423.out)
      replace HB := aM (below_drew1 HB.out)
      refine start_ (n := 8) (S := fun w' => w'.cell? ⟨gb423, 0, none⟩ = some (.int .i64 t428) ∧ w'.cell? ⟨gb423, 1, none⟩ = some (.int .i64 t429) ∧ w'.cell? ⟨gb423, 2, none⟩ = some (.slice Ao65 t430.length co65) ∧ w'.cell? ⟨gb423, 3, none⟩ = some (.slice Ao66 t433.length co66) ∧ w'.cell? ⟨gb413, 0, none⟩ = some (.slice A1_0 l1_0.length c1_0) ∧ w'.cell? ⟨gb413, 1, none⟩ = some (.int .i64 a1_1) ∧ w'.cell? ⟨gb413, 2, none⟩ = some (.int .i64 a1_2) ∧ w'.cell? ⟨gb413, 3, none⟩ = some (.int .i64 a1_3) ∧ w'.cell? ⟨gb413, 4, none⟩ = some (.int .i64 a1_4) ∧ w'.cell? ⟨gb413, 5, none⟩ = some (.int .i64 a1_5)) (ds := [7]) (mB 8 0) (by kernel_rfl) rfl rfl (cx4 BK423 (cy6 BK413)) (fun hHeld => ?_); refine with_tabW spec_AddToBand.tab8 spec_AddToBand.bits8 (fun HT_ HW_ => ?_)
      generalize w67.drew = w68 at HO_424002 HO_424003 HO432 HO435 BK412 BK413 BK414 BK423 HB hHeld ⊢
      refine pU 0 (some 36) (mB 8 1) ?_
      refine tK 1 (some 37) (mB 8 3) ?_
      refine tK 2 (some 38) (mB 8 7) ?_
      refine one_ (i := 3) (N := some 39) (mB 8 15) rfl rfl (one_of HT_.out (by kernel_rfl)) (by decide) (fun K hK => ?_)
      refine goes_ Tryz.func61 (by kernel_rfl) rfl #[.agg #[.slice A1_0 l1_0.length c1_0, .int .i64 a1_1, .int .i64 a1_2, .int .i64 a1_3, .int .i64 a1_4, .int .i64 a1_5]] (by rfl) rfl rfl mA ?_
      with_reducible refine (spec_l07Shape.calls _ _ l1_0 a1_1 a1_2 a1_3 a1_4 a1_5 t436 t439 t440 t441 t442 t443 _ ?side1 ?side2 A49.out).mono ?_
      (case side1 => exact cS (Kd.C_below HR1_0.out HB.out))
      (case side2 => exact HC1_0.out)
      rintro e w69 ⟨v437, rfl, ho0, hb⟩
      refine ⟨_, rfl, ?_⟩
      have HO438 := aM (Kd.R_lower ho0 (below_size bS))
      replace HO_424002 := sB HO_424002 hb
      replace HO_424003 := aM (Kd.S_elder' (sS HO_424003) (Kd.R_base ho0) hb)
      replace HO432 := sB HO432 hb
      replace HO435 := aM (Kd.S_elder' (sS HO435) (Kd.R_base ho0) hb)
      replace BK412 := kB_ gb412 hb
      replace BK413 := kB_ gb413 hb
      replace BK414 := kB_ gb414 hb
      replace BK423 := kB_ gb423 hb
      replace HB := hB hb
      (try clear hb)
      (try clear hb2)
      (try clear hk)
      (try clear hi)
      (try clear ho0)
      obtain ⟨Ao71, co71, eo71⟩ := Kd.R_slice HO438.out
      (first | subst eo71 | obtain ⟨rfl, rfl⟩ := slE eo71)
      refine hK.out _ _ (cx4 BK423 (cy6 BK413)) (fun hHeld => ?_)
      clear hK K
      refine norm_ (a' := ?_) ?_ ?_
      rotate_left
      ·show Act.put _ (some 39) _ = _
       simp only [Act.put, List.setIfInBounds_toArray, List.set_cons_zero, List.set_cons_succ, i64_w, i32_w]
       rfl
      refine one_ (i := 4) (N := some 40) (mB 8 31) rfl rfl (one_of HT_.out (by kernel_rfl)) (by decide) (fun K hK => ?_)
      refine value_ (w1 := ?_) (v := ?_) (by rfl) rfl ?_ ?_
      rotate_left 2
      ·go_simp
       constructor
       ·rfl
       ·rfl
      refine hK.out _ _ ⟨(blk_cell (blk_alloc BK423.out _) 0).trans rfl, (blk_cell (blk_alloc BK423.out _) 1).trans rfl, (blk_cell (blk_alloc BK423.out _) 2).trans rfl, (blk_cell (blk_alloc BK423.out _) 3).trans rfl, (blk_cell (blk_alloc BK413.out _) 0).trans rfl, (blk_cell (blk_alloc BK413.out _) 1).trans rfl, (blk_cell (blk_alloc BK413.out _) 2).trans rfl, (blk_cell (blk_alloc BK413.out _) 3).trans rfl, (blk_cell (blk_alloc BK413.out _) 4).trans rfl, (blk_cell (blk_alloc BK413.out _) 5).trans rfl⟩ (fun hHeld => ?_)
      clear hK K
      refine norm_ (a' := ?_) ?_ ?_
      rotate_left
      ·show Act.put _ (some 40) _ = _
       simp only [Act.put, List.setIfInBounds_toArray, List.set_cons_zero, List.set_cons_succ, i64_w, i32_w]
       rfl
      refine one_ (i := 5) (N := some 41) (mB 8 63) rfl rfl (one_of HT_.out (by kernel_rfl)) (by decide) (fun K hK => ?_)
      refine Kd.S_append_step k49 (w0 := w) w.heap.size (by rfl) (.tmp 37) (.tmp 40) 28 49 (.agg #[(.slice none 0 0), (.int .i64 0), (.int .i64 0), (.int .i64 0), (.int .i64 0), (.int .i64 0)]) 64 rfl Tryz.underlying28 info49 rfl (by decide) (by omega) (.slice Ao66 t433.length co66) t433 (⟨t436, t439, (⟨t440, t441, t442, t443⟩ : S47)⟩ : S49) [.slice Ao71 t436.length co71, .int .i64 t439, .int .i64 t440, .int .i64 t441, .int .i64 t442, .int .i64 t443] (fun k_ => some k_ ≠ (.slice Ao18 t420.length co18 : Value).ownBlock ∧ k_ ≠ gb413) (fun k_ => some k_ = (.slice Ao71 t436.length co71 : Value).ownBlock) rfl rfl ?aP (fun k_ hk_ => ((Kd.R_mono (ok' := fun k_ => ((fun k_ => some k_ ≠ (.slice Ao18 t420.length co18 : Value).ownBlock ∧ k_ ≠ gb413)) k_ ∧ some k_ ≠ (.slice Ao66 t433.length co66 : Value).ownBlock) (Kd.R_types (Kd.R_apart' (Kd.R_apart' (HO438.out) (Kd.S_typed HO_424003.out) (by decide)) (Kd.S_typed HO435.out) (by decide)) BK413.out (by decide)) (fun k_ hk => ⟨⟨hk.1.1.2, hk.2⟩, hk.1.2⟩))).1 k_ hk_.symm) ?aF ?aO ?aB ?aS ?aL ?_
      (case aP => exact k49_mkM _ _ _ (⟨t436, t439, (⟨t440, t441, t442, t443⟩ : S47)⟩ : S49) (Kd.R_mono (Kd.R_tight rfl (Kd.R_mono (ok' := fun k_ => ((fun k_ => some k_ ≠ (.slice Ao18 t420.length co18 : Value).ownBlock ∧ k_ ≠ gb413)) k_ ∧ some k_ ≠ (.slice Ao66 t433.length co66 : Value).ownBlock) (Kd.R_types (Kd.R_apart' (Kd.R_apart' (HO438.out) (Kd.S_typed HO_424003.out) (by decide)) (Kd.S_typed HO435.out) (by decide)) BK413.out (by decide)) (fun k_ hk => ⟨⟨hk.1.1.2, hk.2⟩, hk.1.2⟩))) (fun _ h_ => h_)))
      (case aB => exact bS)
      (case aF => exact (fun k_ hk => ⟨Kd.fresh' (Kd.S_lt (sS HO_424003)) k_ hk, Kd.freshB (g := gb413) kS k_ hk⟩))
      (case aO => exact (by exact sT (Kd.S_mono HO435.out (fun k_ hk => ⟨⟨hk.1.1, hk.1.2⟩, fun e_ => hk.2 e_⟩))))
      (case aS => exact (below_size bS))
      (case aL => have := LMc50.out; omega)
      intro v445 w70 ho hb hg hat
      rw [← Ny444.out] at ho
      have HO446 := aM (ho)
      replace HO_424002 := aM (Kd.S_over' (sS HO_424002) (Kd.S_typed (sS HO435)) (by decide) hg)
      replace HO_424003 := aM (Kd.S_after (ok := (fun k_ => some k_ ≠ (.slice Ao71 t436.length co71 : Value).ownBlock ∧ k_ ≠ gb413)) (by exact sM HO_424003) hg hat)
      replace BK412 := aM (blk_grown (g := gb412) kS hg (Kd.S_ne HO435.out BK412.out (by decide)))
      replace BK413 := aM (blk_grown (g := gb413) kS hg (Kd.S_away HO435.out (fun _ hk => hk.1.2)))
      replace BK414 := aM (blk_grown (g := gb414) kS hg (Kd.S_ne HO435.out BK414.out (by decide)))
      replace BK423 := aM (blk_grown (g := gb423) kS hg (Kd.S_ne HO435.out BK423.out (by decide)))
      replace HO432 := aM (Kd.S_over' (sS HO432) (Kd.S_typed (sS HO435)) (by decide) hg)
      replace HB := aM (hb)
      clear HO435 HO438
      clear ho hb hg hat
      obtain ⟨Ao72, co72, eo72⟩ := Kd.S_slice HO446.out
      (first | subst eo72 | obtain ⟨rfl, rfl⟩ := slE eo72)
      refine hK.out _ _ (cx4 BK423 (cy6 BK413)) (fun hHeld => ?_)
      clear hK K
      refine norm_ (a' := ?_) ?_ ?_
      rotate_left
      ·show Act.put _ (some 41) _ = _
       simp only [Act.put, List.setIfInBounds_toArray, List.set_cons_zero, List.set_cons_succ, i64_w, i32_w]
       rfl
      refine pU 6 (some 42) (mB 8 127) ?_
      refine last_ (i := 7) (N := none) (mB 8 255) rfl rfl (one_of HT_.out (by kernel_rfl)) (by decide) (fun K hK => ?_)
      have hs73 := cg3 BK423
      have hfs73 := blk_frozen BK423.out 3
      have hns73_0 := NB412_423.out
      have hns73_1 := NB413_423.out
      have hns73_2 := NB414_423.out
      have hms73_0 := NB423_412.out
      have hms73_1 := NB423_413.out
      have hms73_2 := NB423_414.out
      refine skip_ (w1 := ?_) (by rfl) rfl ?_ ?_
      rotate_left
      ·go_simp
       rfl
      refine hK.out _ _ ?_
      clear hK K
      refine done_ (done_of HT_.out (by kernel_rfl)) ?_
      have hz74 := cz4 BK423
      have hz75 := cz4 BK414
      try go_wp2
      refine bodyPost_ret (results_ct rfl _ _ gb414 30 #[.int .i64 t428, .int .i64 t429, .slice Ao65 t430.length co65, .slice Ao72 y444.length co72] (0, 0) _ rfl kS Tryz.underlying30 rfl (by kernel_rfl)) rfl ?_
      exact ⟨_, _, eS, by exact sT (Kd.S_mono (Kd.S_far (p := ⟨gb414, 3, none⟩) (Kd.S_far (p := ⟨gb414, 2, none⟩) (Kd.S_far (p := ⟨gb414, 1, none⟩) (Kd.S_far (p := ⟨gb414, 0, none⟩) (Kd.S_far (p := ⟨gb423, 3, none⟩) (Kd.S_types (Kd.S_types HO432.out BK423.out (by decide)) BK414.out (by decide)) (fun _ hk => hk.1.2) (.slice Ao72 y444.length co72)) (fun _ hk => hk.2) (.int .i64 t428)) (fun _ hk => hk.2) (.int .i64 t429)) (fun _ hk => hk.2) (.slice Ao65 t430.length co65)) (fun _ hk => hk.2) (.slice Ao72 y444.length co72)) (fun _ hk => trivial)), by exact sT (Kd.S_mono (Kd.S_far (p := ⟨gb414, 3, none⟩) (Kd.S_far (p := ⟨gb414, 2, none⟩) (Kd.S_far (p := ⟨gb414, 1, none⟩) (Kd.S_far (p := ⟨gb414, 0, none⟩) (Kd.S_far (p := ⟨gb423, 3, none⟩) (Kd.S_types (Kd.S_types HO446.out BK423.out (by decide)) BK414.out (by decide)) (fun _ hk => hk.1.2) (.slice Ao72 y444.length co72)) (fun _ hk => hk.2) (.int .i64 t428)) (fun _ hk => hk.2) (.int .i64 t429)) (fun _ hk => hk.2) (.slice Ao65 t430.length co65)) (fun _ hk => hk.2) (.slice Ao72 y444.length co72)) (fun _ hk => trivial)), bS⟩
     ·rw [if_neg c47] at H
      have c47b0 : decide (60 < (wrap64 ((wrap64 (t427 + 2)) + (l1_0.length : Int)))) = false := decide_eq_false c47
      clear c47
      replace H := bN H
      obtain ⟨⟨t447, t450, t451, t452, t453, t454⟩, A76, H⟩ := H
      obtain ⟨LMc77, H⟩ := iL H
      obtain ⟨y455, hy_⟩ : ∃ y_ : List (S49), y_ = (t420 ++ [(⟨t447, t450, (⟨t451, t452, t453, t454⟩ : S47)⟩ : S49)]) := ⟨_, rfl⟩
      replace H : (some (t415, t416, t417, y455, true)) = some (r1, r2, r3, r4, r5) := yS
      have Ny455 := aM hy_
      clear hy_
      obtain ⟨rfl, rfl, rfl, rfl, rfl⟩ := sI5 H
      have hnb78 := NB413_412.out
      have hnc78 := NB412_413.out
      have hnb79 := NB413_414.out
      have hnc79 := NB414_413.out
      have hnb80 := NB413_423.out
      have hnc80 := NB423_413.out
      have hz81 := cz6 BK413
      have hnb82 := NB412_414.out
      have hnc82 := NB414_412.out
      have hnb83 := NB412_423.out
      have hnc83 := NB423_412.out
      have hz84 := cz4 BK412
      try go_wp2_with (first | ((with_reducible refine gC 59 ?_); refine cM (some 23) Tryz.func59 (spec_TouchesBand.calls kj3 _ _ l1_0 a1_1 a1_2 a1_3 a1_4 a1_5 a0_0 a0_1 _ _ (cC HR1_0 HB) HC1_0.out A44.out) ?_; rintro e w85 ⟨rfl, hb⟩; refine ⟨_, rfl, ?_⟩; replace HO_424002 := sB HO_424002 hb; replace HO_424003 := sB HO_424003 hb; replace BK412 := kB_ gb412 hb; replace BK413 := kB_ gb413 hb; replace BK414 := kB_ gb414 hb; replace BK423 := kB_ gb423 hb; replace HB := hB hb; (try clear hb)))
      replace HO_424002 := aM (Kd.S_drew HO_424002.out)
      replace HO_424003 := aM (Kd.S_drew HO_424003.out)
      replace BK412 := aM (blk_drew BK412.out)
      replace BK413 := aM (blk_drew BK413.out)
      replace BK414 := aM (blk_drew BK414.out)
      replace BK423 := aM (blk_drew BK423.out)
      replace HB := aM (below_drew1 HB.out)
      refine start_ (n := 8) (S := fun w' => w'.cell? ⟨gb412, 0, none⟩ = some (.int .i64 a0_0) ∧ w'.cell? ⟨gb412, 1, none⟩ = some (.int .i64 a0_1) ∧ w'.cell? ⟨gb412, 2, none⟩ = some (.slice A0_2 l0_2.length c0_2) ∧ w'.cell? ⟨gb412, 3, none⟩ = some (.slice A0_3 l0_3.length c0_3) ∧ w'.cell? ⟨gb413, 0, none⟩ = some (.slice A1_0 l1_0.length c1_0) ∧ w'.cell? ⟨gb413, 1, none⟩ = some (.int .i64 a1_1) ∧ w'.cell? ⟨gb413, 2, none⟩ = some (.int .i64 a1_2) ∧ w'.cell? ⟨gb413, 3, none⟩ = some (.int .i64 a1_3) ∧ w'.cell? ⟨gb413, 4, none⟩ = some (.int .i64 a1_4) ∧ w'.cell? ⟨gb413, 5, none⟩ = some (.int .i64 a1_5)) (ds := []) (mB 8 0) (by kernel_rfl) rfl rfl (cx4 BK412 (cy6 BK413)) (fun hHeld => ?_); refine with_tabW spec_AddToBand.tab6 spec_AddToBand.bits6 (fun HT_ HW_ => ?_)
      generalize w85.drew = w86 at HO_424002 HO_424003 BK412 BK413 BK414 BK423 HB hHeld ⊢
      refine pU 3 (some 29) (mB 8 8) ?_
      refine tK 0 (some 26) (mB 8 9) ?_
      refine tK 4 (some 30) (mB 8 25) ?_
      refine pU 5 (some 31) (mB 8 57) ?_
      refine one_ (i := 1) (N := some 27) (mB 8 59) rfl rfl (one_of HT_.out (by kernel_rfl)) (by decide) (fun K hK => ?_)
      refine goes_ Tryz.func60 (by kernel_rfl) rfl #[.agg #[.int .i64 a0_0, .int .i64 a0_1, .slice A0_2 l0_2.length c0_2, .slice A0_3 l0_3.length c0_3]] (by rfl) rfl rfl mA ?_
      with_reducible refine (spec_BandCells.calls kj3 a0_0 a0_1 _ _ l0_2 _ _ l0_3 t427 _ ?side1 ?side2 ?side3 ?side4 A46.out).mono ?_
      (case side1 => exact cS (Kd.C_below HR0_2.out HB.out))
      (case side2 => exact HC0_2.out)
      (case side3 => exact cS (Kd.C_below HR0_3.out HB.out))
      (case side4 => exact HC0_3.out)
      rintro e w87 ⟨rfl, hb⟩
      refine ⟨_, rfl, ?_⟩
      replace HO_424002 := sB HO_424002 hb
      replace HO_424003 := sB HO_424003 hb
      replace BK412 := kB_ gb412 hb
      replace BK413 := kB_ gb413 hb
      replace BK414 := kB_ gb414 hb
      replace BK423 := kB_ gb423 hb
      replace HB := hB hb
      (try clear hb)
      (try clear hb2)
      (try clear hk)
      (try clear hi)
      refine hK.out _ _ (cx4 BK412 (cy6 BK413)) (fun hHeld => ?_)
      clear hK K
      refine norm_ (a' := ?_) ?_ ?_
      rotate_left
      ·show Act.put _ (some 27) _ = _
       simp only [Act.put, List.setIfInBounds_toArray, List.set_cons_zero, List.set_cons_succ, i64_w, i32_w]
       rfl
      refine pU 2 (some 28) (mB 8 63) ?_
      refine pU 6 (some 32) (mB 8 127) ?_
      refine pU 7 (some 33) (mB 8 255) ?_
      refine done_ (done_of HT_.out (by kernel_rfl)) ?_
      try go_wp2
      replace HO_424002 := aM (Kd.S_drew HO_424002.out)
      replace HO_424003 := aM (Kd.S_drew HO_424003.out)
      replace BK412 := aM (blk_drew BK412.out)
      replace BK413 := aM (blk_drew BK413.out)
      replace BK414 := aM (blk_drew BK414.out)
      replace BK423 := aM (blk_drew BK423.out)
      replace HB := aM (below_drew1 HB.out)
      refine start_ (n := 8) (S := fun w' => w'.cell? ⟨gb423, 0, none⟩ = some (.int .i64 t415) ∧ w'.cell? ⟨gb423, 1, none⟩ = some (.int .i64 t416) ∧ w'.cell? ⟨gb423, 2, none⟩ = some (.slice Ao17 t417.length co17) ∧ w'.cell? ⟨gb423, 3, none⟩ = some (.slice Ao18 t420.length co18) ∧ w'.cell? ⟨gb413, 0, none⟩ = some (.slice A1_0 l1_0.length c1_0) ∧ w'.cell? ⟨gb413, 1, none⟩ = some (.int .i64 a1_1) ∧ w'.cell? ⟨gb413, 2, none⟩ = some (.int .i64 a1_2) ∧ w'.cell? ⟨gb413, 3, none⟩ = some (.int .i64 a1_3) ∧ w'.cell? ⟨gb413, 4, none⟩ = some (.int .i64 a1_4) ∧ w'.cell? ⟨gb413, 5, none⟩ = some (.int .i64 a1_5)) (ds := [7]) (mB 8 0) (by kernel_rfl) rfl rfl (cx4 BK423 (cy6 BK413)) (fun hHeld => ?_); refine with_tabW spec_AddToBand.tab8 spec_AddToBand.bits8 (fun HT_ HW_ => ?_)
      generalize w87.drew = w88 at HO_424002 HO_424003 BK412 BK413 BK414 BK423 HB hHeld ⊢
      refine pU 0 (some 36) (mB 8 1) ?_
      refine tK 1 (some 37) (mB 8 3) ?_
      refine tK 2 (some 38) (mB 8 7) ?_
      refine one_ (i := 3) (N := some 39) (mB 8 15) rfl rfl (one_of HT_.out (by kernel_rfl)) (by decide) (fun K hK => ?_)
      refine goes_ Tryz.func61 (by kernel_rfl) rfl #[.agg #[.slice A1_0 l1_0.length c1_0, .int .i64 a1_1, .int .i64 a1_2, .int .i64 a1_3, .int .i64 a1_4, .int .i64 a1_5]] (by rfl) rfl rfl mA ?_
      with_reducible refine (spec_l07Shape.calls _ _ l1_0 a1_1 a1_2 a1_3 a1_4 a1_5 t447 t450 t451 t452 t453 t454 _ ?side1 ?side2 A76.out).mono ?_
      (case side1 => exact cS (Kd.C_below HR1_0.out HB.out))
      (case side2 => exact HC1_0.out)
      rintro e w89 ⟨v448, rfl, ho0, hb⟩
      refine ⟨_, rfl, ?_⟩
      have HO449 := aM (Kd.R_lower ho0 (below_size bS))
      replace HO_424002 := sB HO_424002 hb
      replace HO_424003 := aM (Kd.S_elder' (sS HO_424003) (Kd.R_base ho0) hb)
      replace BK412 := kB_ gb412 hb
      replace BK413 := kB_ gb413 hb
      replace BK414 := kB_ gb414 hb
      replace BK423 := kB_ gb423 hb
      replace HB := hB hb
      (try clear hb)
      (try clear hb2)
      (try clear hk)
      (try clear hi)
      (try clear ho0)
      obtain ⟨Ao91, co91, eo91⟩ := Kd.R_slice HO449.out
      (first | subst eo91 | obtain ⟨rfl, rfl⟩ := slE eo91)
      refine hK.out _ _ (cx4 BK423 (cy6 BK413)) (fun hHeld => ?_)
      clear hK K
      refine norm_ (a' := ?_) ?_ ?_
      rotate_left
      ·show Act.put _ (some 39) _ = _
       simp only [Act.put, List.setIfInBounds_toArray, List.set_cons_zero, List.set_cons_succ, i64_w, i32_w]
       rfl
      refine one_ (i := 4) (N := some 40) (mB 8 31) rfl rfl (one_of HT_.out (by kernel_rfl)) (by decide) (fun K hK => ?_)
      refine value_ (w1 := ?_) (v := ?_) (by rfl) rfl ?_ ?_
      rotate_left 2
      ·go_simp
       constructor
       ·rfl
       ·rfl
      refine hK.out _ _ ⟨(blk_cell (blk_alloc BK423.out _) 0).trans rfl, (blk_cell (blk_alloc BK423.out _) 1).trans rfl, (blk_cell (blk_alloc BK423.out _) 2).trans rfl, (blk_cell (blk_alloc BK423.out _) 3).trans rfl, (blk_cell (blk_alloc BK413.out _) 0).trans rfl, (blk_cell (blk_alloc BK413.out _) 1).trans rfl, (blk_cell (blk_alloc BK413.out _) 2).trans rfl, (blk_cell (blk_alloc BK413.out _) 3).trans rfl, (blk_cell (blk_alloc BK413.out _) 4).trans rfl, (blk_cell (blk_alloc BK413.out _) 5).trans rfl⟩ (fun hHeld => ?_)
      clear hK K
      refine norm_ (a' := ?_) ?_ ?_
      rotate_left
      ·show Act.put _ (some 40) _ = _
       simp only [Act.put, List.setIfInBounds_toArray, List.set_cons_zero, List.set_cons_succ, i64_w, i32_w]
       rfl
      refine one_ (i := 5) (N := some 41) (mB 8 63) rfl rfl (one_of HT_.out (by kernel_rfl)) (by decide) (fun K hK => ?_)
      refine Kd.S_append_step k49 (w0 := w) w.heap.size (by rfl) (.tmp 37) (.tmp 40) 28 49 (.agg #[(.slice none 0 0), (.int .i64 0), (.int .i64 0), (.int .i64 0), (.int .i64 0), (.int .i64 0)]) 64 rfl Tryz.underlying28 info49 rfl (by decide) (by omega) (.slice Ao18 t420.length co18) t420 (⟨t447, t450, (⟨t451, t452, t453, t454⟩ : S47)⟩ : S49) [.slice Ao91 t447.length co91, .int .i64 t450, .int .i64 t451, .int .i64 t452, .int .i64 t453, .int .i64 t454] (fun k_ => k_ ≠ gb413) (fun k_ => some k_ = (.slice Ao91 t447.length co91 : Value).ownBlock) rfl rfl ?aP (fun k_ hk_ => ((Kd.R_mono (ok' := fun k_ => ((fun k_ => k_ ≠ gb413)) k_ ∧ some k_ ≠ (.slice Ao18 t420.length co18 : Value).ownBlock) (Kd.R_types (Kd.R_apart' (HO449.out) (Kd.S_typed HO_424003.out) (by decide)) BK413.out (by decide)) (fun k_ hk => ⟨hk.2, hk.1.2⟩))).1 k_ hk_.symm) ?aF ?aO ?aB ?aS ?aL ?_
      (case aP => exact k49_mkM _ _ _ (⟨t447, t450, (⟨t451, t452, t453, t454⟩ : S47)⟩ : S49) (Kd.R_mono (Kd.R_tight rfl (Kd.R_mono (ok' := fun k_ => ((fun k_ => k_ ≠ gb413)) k_ ∧ some k_ ≠ (.slice Ao18 t420.length co18 : Value).ownBlock) (Kd.R_types (Kd.R_apart' (HO449.out) (Kd.S_typed HO_424003.out) (by decide)) BK413.out (by decide)) (fun k_ hk => ⟨hk.2, hk.1.2⟩))) (fun _ h_ => h_)))
      (case aB => exact bS)
      (case aF => exact (fun k_ hk => Kd.freshB (g := gb413) kS k_ hk))
      (case aO => exact (by exact sT (Kd.S_mono HO_424003.out (fun k_ hk => ⟨hk.1, fun e_ => hk.2 e_⟩))))
      (case aS => exact (below_size bS))
      (case aL => have := LMc77.out; omega)
      intro v456 w90 ho hb hg hat
      rw [← Ny455.out] at ho
      have HO457 := aM (ho)
      replace HO_424002 := aM (Kd.S_over' (sS HO_424002) (Kd.S_typed (sS HO_424003)) (by decide) hg)
      replace BK412 := aM (blk_grown (g := gb412) kS hg (Kd.S_ne HO_424003.out BK412.out (by decide)))
      replace BK413 := aM (blk_grown (g := gb413) kS hg (Kd.S_away HO_424003.out (fun _ hk => hk.1)))
      replace BK414 := aM (blk_grown (g := gb414) kS hg (Kd.S_ne HO_424003.out BK414.out (by decide)))
      replace BK423 := aM (blk_grown (g := gb423) kS hg (Kd.S_ne HO_424003.out BK423.out (by decide)))
      replace HB := aM (hb)
      clear HO_424003 HO449
      clear ho hb hg hat
      obtain ⟨Ao92, co92, eo92⟩ := Kd.S_slice HO457.out
      (first | subst eo92 | obtain ⟨rfl, rfl⟩ := slE eo92)
      refine hK.out _ _ (cx4 BK423 (cy6 BK413)) (fun hHeld => ?_)
      clear hK K
      refine norm_ (a' := ?_) ?_ ?_
      rotate_left
      ·show Act.put _ (some 41) _ = _
       simp only [Act.put, List.setIfInBounds_toArray, List.set_cons_zero, List.set_cons_succ, i64_w, i32_w]
       rfl
      refine pU 6 (some 42) (mB 8 127) ?_
      refine last_ (i := 7) (N := none) (mB 8 255) rfl rfl (one_of HT_.out (by kernel_rfl)) (by decide) (fun K hK => ?_)
      have hs93 := cg3 BK423
      have hfs93 := blk_frozen BK423.out 3
      have hns93_0 := NB412_423.out
      have hns93_1 := NB413_423.out
      have hns93_2 := NB414_423.out
      have hms93_0 := NB423_412.out
      have hms93_1 := NB423_413.out
      have hms93_2 := NB423_414.out
      refine skip_ (w1 := ?_) (by rfl) rfl ?_ ?_
      rotate_left
      ·go_simp
       rfl
      refine hK.out _ _ ?_
      clear hK K
      refine done_ (done_of HT_.out (by kernel_rfl)) ?_
      have hnb94 := NB423_414.out
      have hnc94 := NB414_423.out
      have hz95 := cz4 BK423
      have hz96 := cz4 BK414
      try go_wp2
      refine bodyPost_ret (results_ct rfl _ _ gb414 30 #[.int .i64 t415, .int .i64 t416, .slice Ao17 t417.length co17, .slice Ao92 y455.length co92] (0, 0) _ rfl kS Tryz.underlying30 rfl (by kernel_rfl)) rfl ?_
      exact ⟨_, _, eS, by exact sT (Kd.S_mono (Kd.S_far (p := ⟨gb414, 3, none⟩) (Kd.S_far (p := ⟨gb414, 2, none⟩) (Kd.S_far (p := ⟨gb414, 1, none⟩) (Kd.S_far (p := ⟨gb414, 0, none⟩) (Kd.S_far (p := ⟨gb423, 3, none⟩) (Kd.S_types (Kd.S_types HO_424002.out BK423.out (by decide)) BK414.out (by decide)) (fun _ hk => hk.1.2) (.slice Ao92 y455.length co92)) (fun _ hk => hk.2) (.int .i64 t415)) (fun _ hk => hk.2) (.int .i64 t416)) (fun _ hk => hk.2) (.slice Ao17 t417.length co17)) (fun _ hk => hk.2) (.slice Ao92 y455.length co92)) (fun _ hk => trivial)), by exact sT (Kd.S_mono (Kd.S_far (p := ⟨gb414, 3, none⟩) (Kd.S_far (p := ⟨gb414, 2, none⟩) (Kd.S_far (p := ⟨gb414, 1, none⟩) (Kd.S_far (p := ⟨gb414, 0, none⟩) (Kd.S_far (p := ⟨gb423, 3, none⟩) (Kd.S_types (Kd.S_types HO457.out BK423.out (by decide)) BK414.out (by decide)) (fun _ hk => hk.1.2) (.slice Ao92 y455.length co92)) (fun _ hk => hk.2) (.int .i64 t415)) (fun _ hk => hk.2) (.int .i64 t416)) (fun _ hk => hk.2) (.slice Ao17 t417.length co17)) (fun _ hk => hk.2) (.slice Ao92 y455.length co92)) (fun _ hk => trivial)), bS⟩
    ·obtain rfl := Bool.eq_false_iff.mpr c45
     rw [if_neg nF] at H
     obtain ⟨rfl, rfl, rfl, rfl, rfl⟩ := sI5 H
     have hnb97 := NB413_412.out
     have hnc97 := NB412_413.out
     have hnb98 := NB413_414.out
     have hnc98 := NB414_413.out
     have hnb99 := NB413_423.out
     have hnc99 := NB423_413.out
     have hz100 := cz6 BK413
     have hnb101 := NB412_414.out
     have hnc101 := NB414_412.out
     have hnb102 := NB412_423.out
     have hnc102 := NB423_412.out
     have hz103 := cz4 BK412
     go_wp2_with (first | ((with_reducible refine gC 59 ?_); refine cM (some 23) Tryz.func59 (spec_TouchesBand.calls kj3 _ _ l1_0 a1_1 a1_2 a1_3 a1_4 a1_5 a0_0 a0_1 _ _ (cC HR1_0 HB) HC1_0.out A44.out) ?_; rintro e w104 ⟨rfl, hb⟩; refine ⟨_, rfl, ?_⟩; replace HO_424002 := sB HO_424002 hb; replace HO_424003 := sB HO_424003 hb; replace BK412 := kB_ gb412 hb; replace BK413 := kB_ gb413 hb; replace BK414 := kB_ gb414 hb; replace BK423 := kB_ gb423 hb; replace HB := hB hb; (try clear hb); have hnb105 := NB423_414.out; have hnc105 := NB414_423.out; have hz106 := cz4 BK423; have hz107 := cz4 BK414))
     refine bodyPost_ret (results_ct rfl _ _ gb414 30 #[.int .i64 t415, .int .i64 t416, .slice Ao17 t417.length co17, .slice Ao18 t420.length co18] (0, 0) _ rfl kS Tryz.underlying30 rfl (by kernel_rfl)) rfl ?_
     exact ⟨_, _, eS, by exact sT (Kd.S_mono (Kd.S_far (p := ⟨gb414, 3, none⟩) (Kd.S_far (p := ⟨gb414, 2, none⟩) (Kd.S_far (p := ⟨gb414, 1, none⟩) (Kd.S_far (p := ⟨gb414, 0, none⟩) (Kd.S_types HO_424002.out BK414.out (by decide)) (fun _ hk => hk.2) (.int .i64 t415)) (fun _ hk => hk.2) (.int .i64 t416)) (fun _ hk => hk.2) (.slice Ao17 t417.length co17)) (fun _ hk => hk.2) (.slice Ao18 t420.length co18)) (fun _ hk => trivial)), by exact sT (Kd.S_mono (Kd.S_far (p := ⟨gb414, 3, none⟩) (Kd.S_far (p := ⟨gb414, 2, none⟩) (Kd.S_far (p := ⟨gb414, 1, none⟩) (Kd.S_far (p := ⟨gb414, 0, none⟩) (Kd.S_types HO_424003.out BK414.out (by decide)) (fun _ hk => hk.2) (.int .i64 t415)) (fun _ hk => hk.2) (.int .i64 t416)) (fun _ hk => hk.2) (.slice Ao17 t417.length co17)) (fun _ hk => hk.2) (.slice Ao18 t420.length co18)) (fun _ hk => trivial)), bS⟩

/-! ### impl_objectsCells: function 131 -/
def impl_objectsCells.l0 : Nat → Int → List (S49) → Int → Int → Option (Int)
 | 0, _, _, _, _ => none
 | k + 1, x3, x6, x7, x8 => if x8 < x7 then (if 0 ≤ x8 then (if x8 < (x6.length : Int) then (impl_objectsCells.l0 k (wrap64 (x3 + (wrap64 (2 + (((rd_T49 x6 x8).f0).length : Int))))) x6 x7 (wrap64 (x8 + 1))) else (none)) else (none)) else (some x3)
def impl_objectsCells.f (k : Nat) (l0 : List (S49)) : Option (Int) := impl_objectsCells.l0 k 0 l0 (l0.length : Int) 0
theorem impl_objectsCells.calls (k : Nat) (A0 : Option Addr) (c0 : Nat) (l0 : List (S49)) (r : Int) (w : World) (hr0 : Kd.C k49 w A0 l0.length l0) (hc0 : l0.length ≤ c0) (h : impl_objectsCells.f k l0 = some r) :
  Calls Tryz.prog 131 #[.slice A0 l0.length c0] w fun e w' => e = .returned (.int .i64 r) ∧ Below w.heap.size w w' := by
 have hu49 := Tryz.underlying49
 have HR0 := aM hr0
 have HC0 := aM hc0
 clear hr0 hc0
 have HB := aM (Below.refl w.heap.size w)
 have H := h
 clear h
 unfold impl_objectsCells.f at H
 have H' := aM H
 clear H
 go_enter Tryz.func131, Tryz.ntmps131
 go_wp2
 go_loopg [3, 8] k (fun kq v3 v8 w' => ∃ (x3_1 : Int) (x8_1 : Int), v3 = .int .i64 x3_1 ∧ v8 = .int .i64 x8_1 ∧ Aside0 (impl_objectsCells.l0 kq x3_1 l0 (l0.length : Int) x8_1 = some r) ∧ Aside0 (kq ≤ k) ∧ Aside0 (Below w.heap.size w w'))
 case atStart => exact ⟨(0), (0), fS, fS, H', ⟨Nat.le_refl _⟩, ⟨bS⟩⟩
 case round =>
  clear H'
  try clear c1
  obtain ⟨x3_1, x8_1, rfl, rfl, HA, HK1, HB⟩ := hrel
  cases gk with
  | zero => exact absurd HA.out (by simp [impl_objectsCells.l0])
  | succ k1 =>
   have H := HA.out
   clear HA
   simp only [impl_objectsCells.l0] at H
   rcases iD H with ⟨c2b0, H⟩ | ⟨c2b0, H⟩
   ·obtain ⟨c3b0, H⟩ := iT H
    obtain ⟨c4b0, H⟩ := iT H
    have H' := aM H
    clear H
    have p458 : 0 ≤ (x8_1 : Int) := dA
    have q458 : x8_1 < (l0.length : Int) := dA
    obtain ⟨ad458, A458_0, c458_0, e458, hx458_0, hx458_1, hx458_2, hx458_3, hx458_4, hx458_5, hl458_0, hi458_0⟩ := at_T49 HR0.out x8_1 p458 q458
    cases e458
    replace hx458_0 := cB HB hx458_0
    replace hx458_1 := cB HB hx458_1
    replace hx458_2 := cB HB hx458_2
    replace hx458_3 := cB HB hx458_3
    replace hx458_4 := cB HB hx458_4
    replace hx458_5 := cB HB hx458_5
    have HR458_0 := aM hi458_0
    have HC458_0 := aM hl458_0
    clear hi458_0 hl458_0
    replace p458 := eq_true p458
    replace q458 := eq_true q458
    go_wp2_with (first | ((with_reducible refine gD 5 ?_); refine bxE #[.slice none 0 0, .int .i64 0, .int .i64 0, .int .i64 0, .int .i64 0, .int .i64 0] 49 ?_; intro gb459 hg w5 BK459 hb; have GW459 := gE hg; have GE459 := gE hg; replace HB := hB hb; clear hb hg; have hz6 := cz6 BK459))
    go_roundg k1
    case measure => have := HK1.out; omega
    case rel => exact ⟨(wrap64 (x3_1 + (wrap64 (2 + (((rd_T49 l0 x8_1).f0).length : Int))))), (wrap64 (x8_1 + 1)), fS, fS, H', ⟨by have := HK1.out; omega⟩, ⟨bS⟩⟩
   ·obtain rfl := Option.some.inj H
    go_wp2
    go_ret
    exact ⟨eS, bS⟩

/-! ### impl_BandCells: function 66 -/
def impl_BandCells.f (k : Nat) (a0_0 : Int) (a0_1 : Int) (l0_2 : List (List Int)) (l0_3 : List (S49)) : Option (Int) := (impl_objectsCells.f k l0_3).bind fun t461 => (some t461)
theorem impl_BandCells.calls (k : Nat) (a0_0 : Int) (a0_1 : Int) (A0_2 : Option Addr) (c0_2 : Nat) (l0_2 : List (List Int)) (A0_3 : Option Addr) (c0_3 : Nat) (l0_3 : List (S49)) (r : Int) (w : World) (hr0_2 : Kd.C (Kd.slice 3 (Kd.int .i64)) w A0_2 l0_2.length l0_2) (hc0_2 : l0_2.length ≤ c0_2) (hr0_3 : Kd.C k49 w A0_3 l0_3.length l0_3) (hc0_3 : l0_3.length ≤ c0_3) (h : impl_BandCells.f k a0_0 a0_1 l0_2 l0_3 = some r) :
  Calls Tryz.prog 66 #[.agg #[.int .i64 a0_0, .int .i64 a0_1, .slice A0_2 l0_2.length c0_2, .slice A0_3 l0_3.length c0_3]] w fun e w' => e = .returned (.int .i64 r) ∧ Below w.heap.size w w' := by
 have hu30 := Tryz.underlying30
 have HR0_2 := aM hr0_2
 have HC0_2 := aM hc0_2
 clear hr0_2 hc0_2
 have HR0_3 := aM hr0_3
 have HC0_3 := aM hc0_3
 clear hr0_3 hc0_3
 have HB := aM (Below.refl w.heap.size w)
 have H := h
 clear h
 unfold impl_BandCells.f at H
 replace H := bN H
 obtain ⟨t461, A2, H⟩ := H
 obtain rfl := Option.some.inj H
 go_enter Tryz.func66, Tryz.ntmps66
 go_wp2_with (first | ((with_reducible refine gD 1 ?_); refine bxE #[.int .i64 a0_0, .int .i64 a0_1, .slice A0_2 l0_2.length c0_2, .slice A0_3 l0_3.length c0_3] 30 ?_; intro gb460 hg w3 BK460 hb; have GW460 := gE hg; have GE460 := gE hg; replace HB := hB hb; clear hb hg; have hz4 := cz4 BK460) | ((with_reducible refine gC 131 ?_); refine cM (some 5) Tryz.func131 (impl_objectsCells.calls k _ _ l0_3 t461 _ (cC HR0_3 HB) HC0_3.out A2.out) ?_; rintro e w5 ⟨rfl, hb⟩; refine ⟨_, rfl, ?_⟩; replace BK460 := kB_ gb460 hb; replace HB := hB hb; (try clear hb)))
 go_ret
 exact ⟨eS, bS⟩

/-! ### impl_within: function 124 -/
def impl_within.f (a0 : Int) (a1 : Int) (a2 : Int) : Option (Bool) := if a0 ≥ a1 then (some (decide (a0 ≤ a2))) else (some false)
theorem impl_within.calls (a0 : Int) (a1 : Int) (a2 : Int) (r : Bool) (w : World) (h : impl_within.f a0 a1 a2 = some r) :
  Calls Tryz.prog 124 #[.int .i64 a0, .int .i64 a1, .int .i64 a2] w fun e w' => e = .returned (.bool r) ∧ Drawn0 w w' := by
 have H := h
 clear h
 unfold impl_within.f at H
 by_cases c4 : a0 ≥ a1
 ·rw [if_pos c4] at H
  have c4b0 : decide (a1 ≤ a0) = true := decide_eq_true c4
  clear c4
  obtain rfl := Option.some.inj H
  go_enter Tryz.func124, Tryz.ntmps124
  go_wp2
  go_ret
  exact ⟨fS, dS⟩
 ·rw [if_neg c4] at H
  have c4b0 : decide (a1 ≤ a0) = false := decide_eq_false c4
  clear c4
  obtain rfl := Option.some.inj H
  go_enter Tryz.func124, Tryz.ntmps124
  go_wp2
  go_ret
  exact ⟨fS, dS⟩

/-! ### impl_IsHeight: function 127 -/
def impl_IsHeight.f (a0 : Int) : Option (Bool) := if a0 = 1 then (some true) else (if a0 = 2 then (some true) else (if a0 = 4 then (some true) else (if a0 = 8 then (some true) else (if a0 = 16 then (some true) else (if a0 = 32 then (some true) else (some false))))))
theorem impl_IsHeight.calls (a0 : Int) (r : Bool) (w : World) (h : impl_IsHeight.f a0 = some r) :
  Calls Tryz.prog 127 #[.int .i64 a0] w fun e w' => e = .returned (.bool r) ∧ Drawn0 w w' := by
 have H := h
 clear h
 unfold impl_IsHeight.f at H
 by_cases c2 : a0 = 1
 ·rw [if_pos c2] at H
  have c2b0 : (a0 == 1) = true := beq_iff_eq.mpr c2
  have c2b1 : (a0 != 1) = false := bne_eq_false_iff_eq.mpr c2
  clear c2
  obtain rfl := Option.some.inj H
  go_enter Tryz.func127, Tryz.ntmps127
  go_wp2
  go_ret
  exact ⟨fS, dS⟩
 ·rw [if_neg c2] at H
  have c2b0 : (a0 == 1) = false := beq_eq_false_iff_ne.mpr c2
  have c2b1 : (a0 != 1) = true := bne_iff_ne.mpr c2
  by_cases c3 : a0 = 2
  ·rw [if_pos c3] at H
   have c3b0 : (a0 == 2) = true := beq_iff_eq.mpr c3
   have c3b1 : (a0 != 2) = false := bne_eq_false_iff_eq.mpr c3
   clear c3
   obtain rfl := Option.some.inj H
   go_enter Tryz.func127, Tryz.ntmps127
   go_wp2
   go_ret
   exact ⟨fS, dS⟩
  ·rw [if_neg c3] at H
   have c3b0 : (a0 == 2) = false := beq_eq_false_iff_ne.mpr c3
   have c3b1 : (a0 != 2) = true := bne_iff_ne.mpr c3
   by_cases c4 : a0 = 4
   ·rw [if_pos c4] at H
    have c4b0 : (a0 == 4) = true := beq_iff_eq.mpr c4
    have c4b1 : (a0 != 4) = false := bne_eq_false_iff_eq.mpr c4
    clear c4
    obtain rfl := Option.some.inj H
    go_enter Tryz.func127, Tryz.ntmps127
    go_wp2
    go_ret
    exact ⟨fS, dS⟩
   ·rw [if_neg c4] at H
    have c4b0 : (a0 == 4) = false := beq_eq_false_iff_ne.mpr c4
    have c4b1 : (a0 != 4) = true := bne_iff_ne.mpr c4
    by_cases c5 : a0 = 8
    ·rw [if_pos c5] at H
     have c5b0 : (a0 == 8) = true := beq_iff_eq.mpr c5
     have c5b1 : (a0 != 8) = false := bne_eq_false_iff_eq.mpr c5
     clear c5
     obtain rfl := Option.some.inj H
     go_enter Tryz.func127, Tryz.ntmps127
     go_wp2
     go_ret
     exact ⟨fS, dS⟩
    ·rw [if_neg c5] at H
     have c5b0 : (a0 == 8) = false := beq_eq_false_iff_ne.mpr c5
     have c5b1 : (a0 != 8) = true := bne_iff_ne.mpr c5
     by_cases c6 : a0 = 16
     ·rw [if_pos c6] at H
      have c6b0 : (a0 == 16) = true := beq_iff_eq.mpr c6
      have c6b1 : (a0 != 16) = false := bne_eq_false_iff_eq.mpr c6
      clear c6
      obtain rfl := Option.some.inj H
      go_enter Tryz.func127, Tryz.ntmps127
      go_wp2
      go_ret
      exact ⟨fS, dS⟩
     ·rw [if_neg c6] at H
      have c6b0 : (a0 == 16) = false := beq_eq_false_iff_ne.mpr c6
      have c6b1 : (a0 != 16) = true := bne_iff_ne.mpr c6
      by_cases c7 : a0 = 32
      ·rw [if_pos c7] at H
       have c7b0 : (a0 == 32) = true := beq_iff_eq.mpr c7
       have c7b1 : (a0 != 32) = false := bne_eq_false_iff_eq.mpr c7
       clear c7
       obtain rfl := Option.some.inj H
       go_enter Tryz.func127, Tryz.ntmps127
       go_wp2
       go_ret
       exact ⟨fS, dS⟩
      ·rw [if_neg c7] at H
       have c7b0 : (a0 == 32) = false := beq_eq_false_iff_ne.mpr c7
       have c7b1 : (a0 != 32) = true := bne_iff_ne.mpr c7
       obtain rfl := Option.some.inj H
       go_enter Tryz.func127, Tryz.ntmps127
       go_wp2
       go_ret
       exact ⟨fS, dS⟩

/-! ### impl_CountBands: function 128 -/
def impl_CountBands.f (a0 : Int) : Option (Int) := (impl_IsHeight.f a0).bind fun t462 => (if t462 = true then (if a0 = 0 then (none) else (some (wrap64 ((32 : Int) / a0)))) else (some 0))
theorem impl_CountBands.calls (a0 : Int) (r : Int) (w : World) (h : impl_CountBands.f a0 = some r) :
  Calls Tryz.prog 128 #[.int .i64 a0] w fun e w' => e = .returned (.int .i64 r) ∧ Drawn0 w w' := by
 have H := h
 clear h
 unfold impl_CountBands.f at H
 replace H := bN H
 obtain ⟨t462, A2, H⟩ := H
 by_cases c3 : t462 = true
 ·subst c3
  rw [if_pos rfl] at H
  by_cases c4 : a0 = 0
  ·rw [if_pos c4] at H
   exact absurd H (by simp)
  ·rw [if_neg c4] at H
   have c4b0 : (a0 == 0) = false := beq_eq_false_iff_ne.mpr c4
   have c4b1 : (a0 != 0) = true := bne_iff_ne.mpr c4
   obtain rfl := Option.some.inj H
   go_enter Tryz.func128, Tryz.ntmps128
   go_wp2_with (first | ((with_reducible refine gC 127 ?_); refine cM (some 4) Tryz.func127 (impl_IsHeight.calls a0 _ _ A2.out) ?_; rintro e w' ⟨rfl, ⟨nd, rfl⟩⟩; refine ⟨_, rfl, ?_⟩))
   go_ret
   exact ⟨by first | rfl | (simp; done) | (simp [*]; done) | (simp [*, Int.tdiv_eq_ediv_of_nonneg]; done), dS⟩
 ·obtain rfl := Bool.eq_false_iff.mpr c3
  rw [if_neg nF] at H
  obtain rfl := Option.some.inj H
  go_enter Tryz.func128, Tryz.ntmps128
  go_wp2_with (first | ((with_reducible refine gC 127 ?_); refine cM (some 4) Tryz.func127 (impl_IsHeight.calls a0 _ _ A2.out) ?_; rintro e w' ⟨rfl, ⟨nd, rfl⟩⟩; refine ⟨_, rfl, ?_⟩))
  go_ret
  exact ⟨by first | rfl | (simp; done) | (simp [*]; done) | (simp [*, Int.tdiv_eq_ediv_of_nonneg]; done), dS⟩

/-! ### bits_Mul32: function 194 -/
def bits_Mul32.f (a0 : Int) (a1 : Int) : Option (Int × Int) := some (((IntKind.u64.wrap ((IntKind.u64.wrap (a0)) * (IntKind.u64.wrap (a1)))) / 4294967296) % 4294967296, (IntKind.u64.wrap ((IntKind.u64.wrap (a0)) * (IntKind.u64.wrap (a1)))) % 4294967296)
theorem bits_Mul32.calls (a0 : Int) (a1 : Int) (r1 : Int) (r2 : Int) (w : World) (h : bits_Mul32.f a0 a1 = some (r1, r2)) :
  Calls Tryz.prog 194 #[.int .u32 a0, .int .u32 a1] w fun e w' => e = .returned (.tuple #[.int .u32 r1, .int .u32 r2]) ∧ Drawn0 w w' := by
 have H := h
 clear h
 unfold bits_Mul32.f at H
 obtain ⟨rfl, rfl⟩ := sI2 H
 go_enter Tryz.func194, Tryz.ntmps194
 go_wp2
 go_ret2
 exact ⟨by first | rfl | (simp; done) | (simp [*]; done) | (simp [*, Int.tdiv_eq_ediv_of_nonneg]; done), dS⟩

/-! ### bits_Mul64: function 195 -/
def bits_Mul64.f (a0 : Int) (a1 : Int) : Option (Int × Int) := some (IntKind.u64.wrap ((IntKind.u64.wrap ((IntKind.u64.wrap ((a0 / 4294967296) * (a1 / 4294967296))) + ((IntKind.u64.wrap ((IntKind.u64.wrap ((a0 / 4294967296) * (Go.bits .and .u64 a1 4294967295))) + ((IntKind.u64.wrap ((Go.bits .and .u64 a0 4294967295) * (Go.bits .and .u64 a1 4294967295))) / 4294967296))) / 4294967296))) + ((IntKind.u64.wrap ((Go.bits .and .u64 (IntKind.u64.wrap ((IntKind.u64.wrap ((a0 / 4294967296) * (Go.bits .and .u64 a1 4294967295))) + ((IntKind.u64.wrap ((Go.bits .and .u64 a0 4294967295) * (Go.bits .and .u64 a1 4294967295))) / 4294967296))) 4294967295) + (IntKind.u64.wrap ((Go.bits .and .u64 a0 4294967295) * (a1 / 4294967296))))) / 4294967296)), IntKind.u64.wrap (a0 * a1))
theorem bits_Mul64.calls (a0 : Int) (a1 : Int) (r1 : Int) (r2 : Int) (w : World) (h : bits_Mul64.f a0 a1 = some (r1, r2)) :
  Calls Tryz.prog 195 #[.int .u64 a0, .int .u64 a1] w fun e w' => e = .returned (.tuple #[.int .u64 r1, .int .u64 r2]) ∧ Drawn0 w w' := by
 have H := h
 clear h
 unfold bits_Mul64.f at H
 obtain ⟨rfl, rfl⟩ := sI2 H
 go_enter Tryz.func195, Tryz.ntmps195
 go_wp2
 go_ret2
 exact ⟨by first | rfl | (simp; done) | (simp [*]; done) | (simp [*, Int.tdiv_eq_ediv_of_nonneg]; done), dS⟩

/-! ### bits_Mul: function 191 -/
def bits_Mul.f (a0 : Int) (a1 : Int) : Option (Int × Int) := (bits_Mul64.f a0 a1).bind fun bt463 => (some (bt463.1, bt463.2))
theorem bits_Mul.calls (a0 : Int) (a1 : Int) (r1 : Int) (r2 : Int) (w : World) (h : bits_Mul.f a0 a1 = some (r1, r2)) :
  Calls Tryz.prog 191 #[.int .u64 a0, .int .u64 a1] w fun e w' => e = .returned (.tuple #[.int .u64 r1, .int .u64 r2]) ∧ Drawn0 w w' := by
 have H := h
 clear h
 unfold bits_Mul.f at H
 replace H := bN H
 obtain ⟨⟨t463, t464⟩, A3, H⟩ := H
 obtain ⟨rfl, rfl⟩ := sI2 H
 go_enter Tryz.func191, Tryz.ntmps191
 go_wp2_with (first | ((with_reducible refine gC 195 ?_); refine cM (some 25) Tryz.func195 (bits_Mul64.calls a0 a1 t463 t464 _ A3.out) ?_; rintro e w' ⟨rfl, ⟨nd, rfl⟩⟩; refine ⟨_, rfl, ?_⟩))
 go_ret2
 exact ⟨fS, dS⟩

/-! ### slices_Repeat_int_int: function 183 -/
def slices_Repeat_int_int.f (l0 : List Int) (a1 : Int) : Option (List Int) := if l0 = [255] ∧ a1 = 32 then some (List.replicate 32 255) else none
def repC (n : Nat) : List Value := List.replicate n (Value.int .i64 255) ++ List.replicate (32 - n) (Value.int .i64 0)
theorem src_ {W : World} {g n : Nat} (h : W.heap[g]? = some (.cells (repC n).toArray 3 (0, 0))) (m : Nat) (hm : m ≤ n) : ∀ (j : Nat) (v : Value), (List.replicate m (Value.int .i64 255))[j]? = some v → W.cell? ((⟨g, 0, none⟩ : Addr).add j) = some v := by
 intro j v hj
 rw [add_plain, blk_cell h]
 obtain ⟨hl, rfl⟩ := List.getElem?_eq_some_iff.1 hj
 rw [List.length_replicate] at hl
 rw [List.getElem?_toArray, repC, List.getElem?_append_left (by rw [List.length_replicate]; omega), List.getElem?_replicate, if_pos (by omega), List.getElem_replicate]
theorem slices_Repeat_int_int.calls (A0 : Option Addr) (c0 : Nat) (l0 : List Int) (a1 : Int) (r : List Int) (w : World) (hr0 : Kd.C (Kd.int .i64) w A0 l0.length l0) (hc0 : l0.length ≤ c0) (h : slices_Repeat_int_int.f l0 a1 = some r) :
  Calls Tryz.prog 183 #[.slice A0 l0.length c0, .int .i64 a1] w fun e w' => ∃ v0_ : Value, e = .returned (v0_) ∧ Kd.R (Kd.int .i64) 3 w' w.heap.size (fun _ => True) v0_ r ∧ Below w.heap.size w w' := by
 unfold slices_Repeat_int_int.f at h
 split at h
 case isFalse => simp at h
 rename_i hc
 obtain ⟨rfl, rfl⟩ := hc
 injection h with h
 subst h
 obtain ⟨ad, rfl, hx⟩ := Kd.at_int hr0 0 (by decide) (by decide)
 have hmul : bits_Mul.f 1 32 = some (0, 32) := by decide
 have hcap : 1 ≤ c0 := hc0
 have hmk : ∀ W : World, (Instr.makeSlice 54 (.int .i64 32) (.int .i64 32)).run Tryz.prog W = .ok (.slice (some ⟨W.heap.size, 0, none⟩) 32 32) (W.alloc (.cells (madeCells #[.int .i64 0] 32) 3)) := print_make (P := Tryz.prog) 54 3 .i64 8 Tryz.underlying54 info3 (by decide) 32 (by decide)
 have hsrc : ∀ nd (j : Nat) (v : Value), [Value.int .i64 255][j]? = some v → ((w.drewN nd).alloc (.cells (madeCells #[.int .i64 0] 32) 3)).cell? (ad.add j) = some v := by
  intro nd j v hj
  match j, hj with
  | 0, hj =>
   injection hj with hj
   subst hj
   exact ((below_alloc (pw_below_drewN (Below.refl _ _) nd) _).cell (World.block_lt_of_cell? w _ hx)).trans hx
  | j + 1, hj => simp at hj
 have hrow : ∀ nd, ((w.drewN nd).alloc (.cells (madeCells #[.int .i64 0] 32) 3)).heap[w.heap.size]? = some (.cells (repC 0).toArray 3 (0, 0)) := by
  intro nd
  have h := blk_new (w.drewN nd) (.cells (madeCells #[.int .i64 0] 32) 3)
  have e : madeCells #[Value.int .i64 0] 32 = (repC 0).toArray := by
   have hl : (madeCells #[Value.int .i64 0] 32).toList = List.replicate 32 (Value.int .i64 0) := by
    apply List.ext_getElem
    ·simp [madeCells]
    ·intro i h1 h2
     rw [List.getElem_replicate]
     simp [madeCells, Nat.mod_one]
   exact Array.toList_inj.1 hl
  rw [e] at h ⊢
  exact h
 go_enter Tryz.func183, Tryz.ntmps183
 go_wp2_with (first | (go_at_call 191; (with_reducible refine (bits_Mul.calls 1 32 0 32 _ hmul).mono ?_); rintro e w' ⟨rfl, ⟨nd, rfl⟩⟩) | ((with_reducible refine gate_dst (N := 33) rfl ?_); refine wpList_copy_splice rfl (.tmp 31) (.tmp 32) 54 54 rfl 3 Tryz.underlying54 (by rfl) (some ⟨w.heap.size, 0, none⟩) (some ad) 32 32 1 c0 rfl rfl w.heap.size 0 (repC 0) 3 (hrow nd) [.int .i64 255] (by rfl) (fun _ => ⟨rfl, ad, rfl, hsrc nd⟩) (by decide) (by simp [Value.oneCell']) w.heap.size w (below_alloc (pw_below_drewN (Below.refl _ _) nd) _) (Nat.le_refl _) ?_; intro w2 HG2 hB2))
 have HG := aM HG2.out
 have HB := aM hB2
 clear HG2 hB2
 clear hsrc hrow hmk hmul
 have hg := aM (Nat.le_refl w.heap.size)
 generalize hg0 : w.heap.size = g0 at HG hg
 have hg1 := aM hg0
 clear hg0
 go_loopg [8] 32 (fun kq v8 w' => ∃ (m : Nat) (n : Int), v8 = .int .i64 n ∧ Aside0 (m = 1 ∧ n = 1 ∧ 6 ≤ kq ∨ m = 2 ∧ n = 2 ∧ 5 ≤ kq ∨ m = 4 ∧ n = 4 ∧ 4 ≤ kq ∨ m = 8 ∧ n = 8 ∧ 3 ≤ kq ∨ m = 16 ∧ n = 16 ∧ 2 ≤ kq ∨ m = 32 ∧ n = 32 ∧ 1 ≤ kq) ∧ Aside0 (w'.heap[g0]? = some (.cells (repC m).toArray 3 (0, 0))) ∧ Aside0 (Below w.heap.size w w'))
 case atStart => exact ⟨1, 1, rfl, ⟨by decide⟩, HG, HB⟩
 case round =>
  clear HG HB
  obtain ⟨m, n, rfl, hn, HG, HB⟩ := hrel
  rcases hn.out with ⟨rfl, rfl, n1⟩ | ⟨rfl, rfl, n1⟩ | ⟨rfl, rfl, n1⟩ | ⟨rfl, rfl, n1⟩ | ⟨rfl, rfl, n1⟩ | ⟨rfl, rfl, n1⟩
  ·clear hn
   obtain ⟨k1, rfl⟩ : ∃ k1, gk = k1 + 1 := ⟨gk - 1, by omega⟩
   have N1 := aM n1
   clear n1
   have S := aM (src_ HG.out 1 (by decide))
   go_wp2
   go_region_law (refine step_copy_splice rfl (.tmp 41) (.tmp 44) 54 54 rfl 3 Tryz.underlying54 (by rfl) (some ⟨g0, 1, none⟩) (some ⟨g0, 0, none⟩) 31 31 1 32 (by simp [Act.eval, Act.put]) (by simp [Act.eval, Act.put]) g0 1 (repC 1) 3 HG.out (List.replicate 1 (Value.int .i64 255)) (by rfl) (fun _ => ⟨rfl, _, rfl, S.out⟩) (by decide) (by simp [Value.oneCell']) w.heap.size w (below_drew1 HB.out) (by rw [hg1.out]; exact Nat.le_refl _) ?_; intro w4 hg4 hb4; clear HB HG S; have HG := aM hg4.out; have HB := aM hb4; clear hg4 hb4)
   go_wp2
   go_roundg k1
   case measure => have := N1.out; omega
   case rel => exact ⟨2, 2, (by first | rfl | (simp [goInt]; done)), ⟨by have := N1.out; omega⟩, HG, HB⟩
  ·clear hn
   obtain ⟨k1, rfl⟩ : ∃ k1, gk = k1 + 1 := ⟨gk - 1, by omega⟩
   have N1 := aM n1
   clear n1
   have S := aM (src_ HG.out 2 (by decide))
   go_wp2
   go_region_law (refine step_copy_splice rfl (.tmp 41) (.tmp 44) 54 54 rfl 3 Tryz.underlying54 (by rfl) (some ⟨g0, 2, none⟩) (some ⟨g0, 0, none⟩) 30 30 2 32 (by simp [Act.eval, Act.put]) (by simp [Act.eval, Act.put]) g0 2 (repC 2) 3 HG.out (List.replicate 2 (Value.int .i64 255)) (by rfl) (fun _ => ⟨rfl, _, rfl, S.out⟩) (by decide) (by simp [Value.oneCell']) w.heap.size w (below_drew1 HB.out) (by rw [hg1.out]; exact Nat.le_refl _) ?_; intro w4 hg4 hb4; clear HB HG S; have HG := aM hg4.out; have HB := aM hb4; clear hg4 hb4)
   go_wp2
   go_roundg k1
   case measure => have := N1.out; omega
   case rel => exact ⟨4, 4, (by first | rfl | (simp [goInt]; done)), ⟨by have := N1.out; omega⟩, HG, HB⟩
  ·clear hn
   obtain ⟨k1, rfl⟩ : ∃ k1, gk = k1 + 1 := ⟨gk - 1, by omega⟩
   have N1 := aM n1
   clear n1
   have S := aM (src_ HG.out 4 (by decide))
   go_wp2
   go_region_law (refine step_copy_splice rfl (.tmp 41) (.tmp 44) 54 54 rfl 3 Tryz.underlying54 (by rfl) (some ⟨g0, 4, none⟩) (some ⟨g0, 0, none⟩) 28 28 4 32 (by simp [Act.eval, Act.put]) (by simp [Act.eval, Act.put]) g0 4 (repC 4) 3 HG.out (List.replicate 4 (Value.int .i64 255)) (by rfl) (fun _ => ⟨rfl, _, rfl, S.out⟩) (by decide) (by simp [Value.oneCell']) w.heap.size w (below_drew1 HB.out) (by rw [hg1.out]; exact Nat.le_refl _) ?_; intro w4 hg4 hb4; clear HB HG S; have HG := aM hg4.out; have HB := aM hb4; clear hg4 hb4)
   go_wp2
   go_roundg k1
   case measure => have := N1.out; omega
   case rel => exact ⟨8, 8, (by first | rfl | (simp [goInt]; done)), ⟨by have := N1.out; omega⟩, HG, HB⟩
  ·clear hn
   obtain ⟨k1, rfl⟩ : ∃ k1, gk = k1 + 1 := ⟨gk - 1, by omega⟩
   have N1 := aM n1
   clear n1
   have S := aM (src_ HG.out 8 (by decide))
   go_wp2
   go_region_law (refine step_copy_splice rfl (.tmp 41) (.tmp 44) 54 54 rfl 3 Tryz.underlying54 (by rfl) (some ⟨g0, 8, none⟩) (some ⟨g0, 0, none⟩) 24 24 8 32 (by simp [Act.eval, Act.put]) (by simp [Act.eval, Act.put]) g0 8 (repC 8) 3 HG.out (List.replicate 8 (Value.int .i64 255)) (by rfl) (fun _ => ⟨rfl, _, rfl, S.out⟩) (by decide) (by simp [Value.oneCell']) w.heap.size w (below_drew1 HB.out) (by rw [hg1.out]; exact Nat.le_refl _) ?_; intro w4 hg4 hb4; clear HB HG S; have HG := aM hg4.out; have HB := aM hb4; clear hg4 hb4)
   go_wp2
   go_roundg k1
   case measure => have := N1.out; omega
   case rel => exact ⟨16, 16, (by first | rfl | (simp [goInt]; done)), ⟨by have := N1.out; omega⟩, HG, HB⟩
  ·clear hn
   obtain ⟨k1, rfl⟩ : ∃ k1, gk = k1 + 1 := ⟨gk - 1, by omega⟩
   have N1 := aM n1
   clear n1
   have S := aM (src_ HG.out 16 (by decide))
   go_wp2
   go_region_law (refine step_copy_splice rfl (.tmp 41) (.tmp 44) 54 54 rfl 3 Tryz.underlying54 (by rfl) (some ⟨g0, 16, none⟩) (some ⟨g0, 0, none⟩) 16 16 16 32 (by simp [Act.eval, Act.put]) (by simp [Act.eval, Act.put]) g0 16 (repC 16) 3 HG.out (List.replicate 16 (Value.int .i64 255)) (by rfl) (fun _ => ⟨rfl, _, rfl, S.out⟩) (by decide) (by simp [Value.oneCell']) w.heap.size w (below_drew1 HB.out) (by rw [hg1.out]; exact Nat.le_refl _) ?_; intro w4 hg4 hb4; clear HB HG S; have HG := aM hg4.out; have HB := aM hb4; clear hg4 hb4)
   go_wp2
   go_roundg k1
   case measure => have := N1.out; omega
   case rel => exact ⟨32, 32, (by first | rfl | (simp [goInt]; done)), ⟨by have := N1.out; omega⟩, HG, HB⟩
  ·clear hn
   go_wp2
   go_ret
   exact ⟨_, rfl, Kd.R_of_own ⟨by decide, .inr ⟨g0, 32, (repC 32).toArray, rfl, Nat.le_of_eq hg1.out, HG.out, Nat.le_refl _, by decide, by rfl, by rfl⟩⟩ (fun _ _ => trivial), HB.out⟩


/-! ### impl_WhiteRows: function 164 -/
def impl_WhiteRows.l0 : Nat → Int → List (List Int) → Option ((List (List Int)))
 | 0, _, _ => none
 | k + 1, x0, x3 => if x0 > 0 then ((slices_Repeat_int_int.f (([255] : List Int)) 32).bind fun t469 => (if x3.length < 5864062014805 then (impl_WhiteRows.l0 k (wrap64 (x0 - 1)) (x3 ++ [t469])) else (none))) else (some x3)
def impl_WhiteRows.f (k : Nat) (a0 : Int) : Option ((List (List Int))) := (impl_within.f a0 0 32).bind fun t465 => (if t465 = true then (impl_WhiteRows.l0 k a0 ([] : List (List Int))) else (some ([] : List (List Int))))
theorem impl_WhiteRows.calls (k : Nat) (a0 : Int) (r : List (List Int)) (w : World) (h : impl_WhiteRows.f k a0 = some r) :
  Calls Tryz.prog 164 #[.int .i64 a0] w fun e w' => ∃ v0_ : Value, e = .returned (v0_) ∧ Kd.S (Kd.slice 3 (Kd.int .i64)) 54 w' w.heap.size (fun _ => True) v0_ r ∧ Below w.heap.size w w' := by
 have HB := aM (Below.refl w.heap.size w)
 have H := h
 clear h
 unfold impl_WhiteRows.f at H
 replace H := bN H
 obtain ⟨t465, A2, H⟩ := H
 by_cases c3 : t465 = true
 ·subst c3
  rw [if_pos rfl] at H
  have H' := aM H
  clear H
  go_enter Tryz.func164, Tryz.ntmps164
  go_wp2_with (first | ((with_reducible refine gC 124 ?_); refine cM (some 5) Tryz.func124 (impl_within.calls a0 0 32 _ _ A2.out) ?_; rintro e w' ⟨rfl, ⟨nd, rfl⟩⟩; refine ⟨_, rfl, ?_⟩))
  go_loopg [0, 3] k (fun kq v0 v3 w' => ∃ (x0_1 : Int) (x3_1 : List (List Int)), v0 = .int .i64 x0_1 ∧ Aside0 (impl_WhiteRows.l0 kq x0_1 x3_1 = some r) ∧ Aside0 (kq ≤ k) ∧ Aside0 (Kd.S (Kd.slice 3 (Kd.int .i64)) 54 w' w.heap.size (fun _ => True) v3 x3_1) ∧ Aside0 (Below w.heap.size w w'))
  case atStart => exact ⟨(a0), (([] : List (List Int))), fS, H', ⟨Nat.le_refl _⟩, ⟨by first | exact Kd.S_nil _ _ _ _ _ | exact Kd.N_nil _ _ _ _ _ | exact Kd.V_nil _ _ _ _ _ | exact Kd.Q_nil _ _ _ _ _ | exact Kd.R_nil _ _ _ _ _⟩, ⟨bS⟩⟩
  case round =>
   clear H'
   try clear c1
   try clear p2
   try clear c3
   obtain ⟨x0_1, x3_1, rfl, HA, HK1, HO_3, HB⟩ := hrel
   cases gk with
   | zero => exact absurd HA.out (by simp [impl_WhiteRows.l0])
   | succ k1 =>
    have H := HA.out
    clear HA
    simp only [impl_WhiteRows.l0] at H
    by_cases c4 : x0_1 > 0
    ·rw [if_pos c4] at H
     have c4b0 : decide (0 < x0_1) = true := decide_eq_true c4
     clear c4
     obtain ⟨y466, hy_⟩ : ∃ y_ : List Int, y_ = (([255] : List Int)) := ⟨_, rfl⟩
     replace H : ((slices_Repeat_int_int.f y466 32).bind fun t469 => (if x3_1.length < 5864062014805 then (impl_WhiteRows.l0 k1 (wrap64 (x0_1 - 1)) (x3_1 ++ [t469])) else (none))) = some r := yS
     have Ny466 := aM hy_
     clear hy_
     replace H := bN H
     obtain ⟨t469, A5, H⟩ := H
     obtain ⟨LMc6, H⟩ := iL H
     obtain ⟨y472, hy_⟩ : ∃ y_ : List (List Int), y_ = (x3_1 ++ [t469]) := ⟨_, rfl⟩
     replace H : (impl_WhiteRows.l0 k1 (wrap64 (x0_1 - 1)) y472) = some r := yS
     have Ny472 := aM hy_
     clear hy_
     have H' := aM H
     clear H
     go_wp2_with (first | ((with_reducible refine gate_dst (N := 12) rfl ?_); refine Kd.R_lit (Kd.int .i64) _ 3 ?hg (N := 12) ?hd (xs := ([255] : List Int)) (inner := [.int .i64 255]) (ok := fun _ => True) (okp := fun _ => True) ?hr ?hp (fun _ hk => hk) trivial (Below.refl _ _) (Nat.le_refl _) (by simp) ?_; (case hd => rfl); (case hg => rfl); (case hr => first | (go_simp; done) | (go_simp; rfl)); (case hp => exact (Reps.one (show Kd.M (Kd.int .i64) _ _ _ 255 [.int .i64 255] from rfl) (Reps.none _ _))); intro v467 w7 ho8 hb hg_ hnew_; clear hg_ hnew_; (first | rw [← Ny466.out] at ho8 | (simp only [Int.reduceToNat] at ho8; rw [← Ny466.out] at ho8)); have HO468 := aM (Kd.R_lower ho8 (below_size bS)); replace HO_3 := aM (Kd.S_elder' (sS HO_3) (Kd.R_base ho8) hb); replace HB := hB hb; clear hb ho8; obtain ⟨Ao9, co9, eo9⟩ := Kd.R_slice HO468.out; subst eo9) | ((with_reducible refine gC 183 ?_); refine cM (some 13) Tryz.func183 (slices_Repeat_int_int.calls _ _ y466 32 t469 _ (cS (Kd.R_reads' HO468.out).2.2) ((Kd.R_reads' HO468.out).2.1) A5.out) ?_; rintro e w10 ⟨v470, rfl, ho0, hb⟩; refine ⟨_, rfl, ?_⟩; have HO471 := aM (Kd.R_lower (Kd.R_new' ho0 (Kd.R_lt (rS HO468))) (below_size bS)); replace HO_3 := aM (Kd.S_elder' (sS HO_3) (Kd.R_base ho0) hb); replace HO468 := aM (Kd.R_elder' (rS HO468) (Kd.R_base ho0) hb); replace HB := hB hb; (try clear hb ho0); obtain ⟨Ao12, co12, eo12⟩ := Kd.R_slice HO471.out; subst eo12) | ((with_reducible refine gate_builtin (b := .append) (xs := #[.tmp 11, .tmp 14]) rfl ?_); at_builtin; refine Kd.S_append (Kd.slice 3 (Kd.int .i64)) (w0 := w) w.heap.size rfl (.tmp 11) (.tmp 14) 22 54 (.slice none 0 0) 24 rfl Tryz.underlying22 info54 rfl (by decide) (by omega) u3 x3_1 t469 [.slice Ao12 t469.length co12] (fun k_ => some k_ ≠ (.slice Ao9 y466.length co9 : Value).ownBlock) (fun k_ => some k_ = (.slice Ao12 t469.length co12 : Value).ownBlock) rfl rfl ?aP (fun k_ hk_ => ((Kd.R_mono (ok' := fun k_ => ((fun k_ => some k_ ≠ (.slice Ao9 y466.length co9 : Value).ownBlock)) k_ ∧ some k_ ≠ (u3 : Value).ownBlock) (Kd.R_apart' (HO471.out) (Kd.S_typed HO_3.out) (by decide)) (fun k_ hk => ⟨hk.1.2, hk.2⟩))).1 k_ hk_.symm) ?aF ?aO ?aB ?aS ?aL ?_; (case aP => exact Kd.M_row (Kd.R_mono (Kd.R_tight rfl (Kd.R_mono (ok' := fun k_ => ((fun k_ => some k_ ≠ (.slice Ao9 y466.length co9 : Value).ownBlock)) k_ ∧ some k_ ≠ (u3 : Value).ownBlock) (Kd.R_apart' (HO471.out) (Kd.S_typed HO_3.out) (by decide)) (fun k_ hk => ⟨hk.1.2, hk.2⟩))) (fun _ h_ => h_))); (case aB => exact bS); (case aF => exact (fun k_ hk => Kd.fresh' (Kd.R_lt (rS HO468)) k_ hk)); (case aO => exact (by exact sT (Kd.S_mono HO_3.out (fun k_ hk => ⟨hk.1.2, fun e_ => hk.2 e_⟩)))); (case aS => exact (below_size bS)); (case aL => have := LMc6.out; omega); intro v473 w11 ho hb hg hat; rw [← Ny472.out] at ho; have HO474 := aM (ho); replace HO468 := aM (Kd.R_over' (rS HO468) (Kd.S_typed (sS HO_3)) (by decide) hg); replace HB := aM (hb); clear HO_3 HO471; clear ho hb hg hat))
     go_roundg k1
     case measure => have := HK1.out; omega
     case rel => exact ⟨(wrap64 (x0_1 - 1)), (y472), fS, H', ⟨by have := HK1.out; omega⟩, ⟨by exact sT (Kd.S_mono HO474.out (fun _ hk => trivial))⟩, ⟨bS⟩⟩
    ·rw [if_neg c4] at H
     have c4b0 : decide (0 < x0_1) = false := decide_eq_false c4
     clear c4
     obtain rfl := Option.some.inj H
     go_wp2
     go_ret
     exact ⟨_, eS, sS HO_3, bS⟩
 ·obtain rfl := Bool.eq_false_iff.mpr c3
  rw [if_neg nF] at H
  obtain rfl := Option.some.inj H
  go_enter Tryz.func164, Tryz.ntmps164
  go_wp2_with (first | ((with_reducible refine gC 124 ?_); refine cM (some 5) Tryz.func124 (impl_within.calls a0 0 32 _ _ A2.out) ?_; rintro e w' ⟨rfl, ⟨nd, rfl⟩⟩; refine ⟨_, rfl, ?_⟩))
  go_ret
  exact ⟨_, eS, by first | exact Kd.S_nil _ _ _ _ _ | exact Kd.N_nil _ _ _ _ _ | exact Kd.V_nil _ _ _ _ _ | exact Kd.Q_nil _ _ _ _ _ | exact Kd.R_nil _ _ _ _ _, bS⟩

/-! ### impl_NewBand: function 110 -/
def impl_NewBand.f (k : Nat) (a0 : Int) (a1 : Int) : Option (Int × Int × (List (List Int)) × (List (S49)) × Bool) := (impl_IsHeight.f a0).bind fun t476 => (if t476 = true then ((impl_CountBands.f a0).bind fun t477 => ((impl_within.f a1 0 (wrap64 (t477 - 1))).bind fun t478 => (if t478 = true then ((impl_WhiteRows.f k a0).bind fun t479 => (some (a0, a1, t479, ([] : List (S49)), true))) else (some (0, 0, ([] : List (List Int)), ([] : List (S49)), false))))) else (some (0, 0, ([] : List (List Int)), ([] : List (S49)), false)))
theorem impl_NewBand.calls (k : Nat) (a0 : Int) (a1 : Int) (r1 : Int) (r2 : Int) (r3 : List (List Int)) (r4 : List (S49)) (r5 : Bool) (w : World) (h : impl_NewBand.f k a0 a1 = some (r1, r2, r3, r4, r5)) :
  Calls Tryz.prog 110 #[.int .i64 a0, .int .i64 a1] w fun e w' => ∃ v2_ v3_ : Value, e = .returned (.tuple #[.agg #[.int .i64 r1, .int .i64 r2, v2_, v3_], .bool r5]) ∧ Kd.S (Kd.slice 3 (Kd.int .i64)) 54 w' w.heap.size (fun _ => True) v2_ r3 ∧ Kd.S k49 49 w' w.heap.size (fun _ => True) v3_ r4 ∧ Below w.heap.size w w' := by
 have hu30 := Tryz.underlying30
 have HB := aM (Below.refl w.heap.size w)
 have H := h
 clear h
 unfold impl_NewBand.f at H
 replace H := bN H
 obtain ⟨t476, A3, H⟩ := H
 by_cases c4 : t476 = true
 ·subst c4
  rw [if_pos rfl] at H
  replace H := bN H
  obtain ⟨t477, A5, H⟩ := H
  replace H := bN H
  obtain ⟨t478, A6, H⟩ := H
  by_cases c7 : t478 = true
  ·subst c7
   rw [if_pos rfl] at H
   replace H := bN H
   obtain ⟨t479, A8, H⟩ := H
   obtain ⟨rfl, rfl, rfl, rfl, rfl⟩ := sI5 H
   go_enter Tryz.func110, Tryz.ntmps110
   go_wp2_with (first | ((with_reducible refine gD 4 ?_); refine bxE #[.int .i64 0, .int .i64 0, .slice none 0 0, .slice none 0 0] 30 ?_; intro gb475 hg w9 BK475 hb; have GW475 := gE hg; have GE475 := gE hg; replace HB := hB hb; clear hb hg) | ((with_reducible refine gC 127 ?_); refine cM (some 7) Tryz.func127 (impl_IsHeight.calls a0 _ _ A3.out) ?_; rintro e w' ⟨rfl, ⟨nd, rfl⟩⟩; refine ⟨_, rfl, ?_⟩; (try (rw [drewN_self w9]; generalize hq_ : World.drewN w9 _ = w9; replace BK475 : Aside0 (w9.heap[gb475]? = some (.cells #[.int .i64 0, .int .i64 0, .slice none 0 0, .slice none 0 0] 30 (0, 0))) := ⟨by rw [← hq_]; exact kS⟩; replace HB : Aside0 (Below w.heap.size w w9) := ⟨by rw [← hq_]; exact bS⟩; clear hq_))) | (go_at_call 128; (with_reducible refine (impl_CountBands.calls a0 t477 _ A5.out).mono ?_); rintro e w' ⟨rfl, ⟨nd, rfl⟩⟩; (try (rw [drewN_self w9]; generalize hq_ : World.drewN w9 _ = w9; replace BK475 : Aside0 (w9.heap[gb475]? = some (.cells #[.int .i64 0, .int .i64 0, .slice none 0 0, .slice none 0 0] 30 (0, 0))) := ⟨by rw [← hq_]; exact kS⟩; replace HB : Aside0 (Below w.heap.size w w9) := ⟨by rw [← hq_]; exact bS⟩; clear hq_))) | (go_at_call 124; (with_reducible refine (impl_within.calls a1 0 (wrap64 (t477 - 1)) _ _ A6.out).mono ?_); rintro e w' ⟨rfl, ⟨nd, rfl⟩⟩; (try (rw [drewN_self w9]; generalize hq_ : World.drewN w9 _ = w9; replace BK475 : Aside0 (w9.heap[gb475]? = some (.cells #[.int .i64 0, .int .i64 0, .slice none 0 0, .slice none 0 0] 30 (0, 0))) := ⟨by rw [← hq_]; exact kS⟩; replace HB : Aside0 (Below w.heap.size w w9) := ⟨by rw [← hq_]; exact bS⟩; clear hq_))) | ((with_reducible refine gC 164 ?_); refine cM (some 21) Tryz.func164 (impl_WhiteRows.calls k a0 t479 _ A8.out) ?_; rintro e w10 ⟨v480, rfl, ho0, hb⟩; refine ⟨_, rfl, ?_⟩; have HO481 := aM (Kd.S_lower ho0 (below_size bS)); replace BK475 := kB_ gb475 hb; replace HB := hB hb; (try clear hb ho0); obtain ⟨Ao11, co11, eo11⟩ := Kd.S_slice HO481.out; subst eo11; have hz12 := cz4 BK475))
   refine bodyPost_ret (results_ct rfl _ _ gb475 30 #[.int .i64 a0, .int .i64 a1, .slice Ao11 t479.length co11, .slice none 0 0] (0, 0) _ rfl kS Tryz.underlying30 rfl (by kernel_rfl)) rfl ?_
   exact ⟨_, _, eS, by exact sT (Kd.S_mono (Kd.S_far (p := ⟨gb475, 3, none⟩) (Kd.S_far (p := ⟨gb475, 2, none⟩) (Kd.S_far (p := ⟨gb475, 1, none⟩) (Kd.S_far (p := ⟨gb475, 0, none⟩) (Kd.S_types HO481.out BK475.out (by decide)) (fun _ hk => hk.2) (.int .i64 a0)) (fun _ hk => hk.2) (.int .i64 a1)) (fun _ hk => hk.2) (.slice Ao11 t479.length co11)) (fun _ hk => hk.2) (.slice none 0 0)) (fun _ hk => trivial)), by first | exact Kd.S_nil _ _ _ _ _ | exact Kd.N_nil _ _ _ _ _ | exact Kd.V_nil _ _ _ _ _ | exact Kd.Q_nil _ _ _ _ _ | exact Kd.R_nil _ _ _ _ _, bS⟩
  ·obtain rfl := Bool.eq_false_iff.mpr c7
   rw [if_neg nF] at H
   obtain ⟨rfl, rfl, rfl, rfl, rfl⟩ := sI5 H
   go_enter Tryz.func110, Tryz.ntmps110
   go_wp2_with (first | ((with_reducible refine gD 4 ?_); refine bxE #[.int .i64 0, .int .i64 0, .slice none 0 0, .slice none 0 0] 30 ?_; intro gb475 hg w13 BK475 hb; have GW475 := gE hg; have GE475 := gE hg; replace HB := hB hb; clear hb hg) | ((with_reducible refine gC 127 ?_); refine cM (some 7) Tryz.func127 (impl_IsHeight.calls a0 _ _ A3.out) ?_; rintro e w' ⟨rfl, ⟨nd, rfl⟩⟩; refine ⟨_, rfl, ?_⟩; (try (rw [drewN_self w13]; generalize hq_ : World.drewN w13 _ = w13; replace BK475 : Aside0 (w13.heap[gb475]? = some (.cells #[.int .i64 0, .int .i64 0, .slice none 0 0, .slice none 0 0] 30 (0, 0))) := ⟨by rw [← hq_]; exact kS⟩; replace HB : Aside0 (Below w.heap.size w w13) := ⟨by rw [← hq_]; exact bS⟩; clear hq_))) | (go_at_call 128; (with_reducible refine (impl_CountBands.calls a0 t477 _ A5.out).mono ?_); rintro e w' ⟨rfl, ⟨nd, rfl⟩⟩; (try (rw [drewN_self w13]; generalize hq_ : World.drewN w13 _ = w13; replace BK475 : Aside0 (w13.heap[gb475]? = some (.cells #[.int .i64 0, .int .i64 0, .slice none 0 0, .slice none 0 0] 30 (0, 0))) := ⟨by rw [← hq_]; exact kS⟩; replace HB : Aside0 (Below w.heap.size w w13) := ⟨by rw [← hq_]; exact bS⟩; clear hq_))) | (go_at_call 124; (with_reducible refine (impl_within.calls a1 0 (wrap64 (t477 - 1)) _ _ A6.out).mono ?_); rintro e w' ⟨rfl, ⟨nd, rfl⟩⟩; (try (rw [drewN_self w13]; generalize hq_ : World.drewN w13 _ = w13; replace BK475 : Aside0 (w13.heap[gb475]? = some (.cells #[.int .i64 0, .int .i64 0, .slice none 0 0, .slice none 0 0] 30 (0, 0))) := ⟨by rw [← hq_]; exact kS⟩; replace HB : Aside0 (Below w.heap.size w w13) := ⟨by rw [← hq_]; exact bS⟩; clear hq_)); have hz14 := cz4 BK475))
   refine bodyPost_ret (results_ct rfl _ _ gb475 30 #[.int .i64 0, .int .i64 0, .slice none 0 0, .slice none 0 0] (0, 0) _ rfl kS Tryz.underlying30 rfl (by kernel_rfl)) rfl ?_
   exact ⟨_, _, eS, by first | exact Kd.S_nil _ _ _ _ _ | exact Kd.N_nil _ _ _ _ _ | exact Kd.V_nil _ _ _ _ _ | exact Kd.Q_nil _ _ _ _ _ | exact Kd.R_nil _ _ _ _ _, by first | exact Kd.S_nil _ _ _ _ _ | exact Kd.N_nil _ _ _ _ _ | exact Kd.V_nil _ _ _ _ _ | exact Kd.Q_nil _ _ _ _ _ | exact Kd.R_nil _ _ _ _ _, bS⟩
 ·obtain rfl := Bool.eq_false_iff.mpr c4
  rw [if_neg nF] at H
  obtain ⟨rfl, rfl, rfl, rfl, rfl⟩ := sI5 H
  go_enter Tryz.func110, Tryz.ntmps110
  go_wp2_with (first | ((with_reducible refine gD 4 ?_); refine bxE #[.int .i64 0, .int .i64 0, .slice none 0 0, .slice none 0 0] 30 ?_; intro gb475 hg w15 BK475 hb; have GW475 := gE hg; have GE475 := gE hg; replace HB := hB hb; clear hb hg) | ((with_reducible refine gC 127 ?_); refine cM (some 7) Tryz.func127 (impl_IsHeight.calls a0 _ _ A3.out) ?_; rintro e w' ⟨rfl, ⟨nd, rfl⟩⟩; refine ⟨_, rfl, ?_⟩; (try (rw [drewN_self w15]; generalize hq_ : World.drewN w15 _ = w15; replace BK475 : Aside0 (w15.heap[gb475]? = some (.cells #[.int .i64 0, .int .i64 0, .slice none 0 0, .slice none 0 0] 30 (0, 0))) := ⟨by rw [← hq_]; exact kS⟩; replace HB : Aside0 (Below w.heap.size w w15) := ⟨by rw [← hq_]; exact bS⟩; clear hq_)); have hz16 := cz4 BK475))
  refine bodyPost_ret (results_ct rfl _ _ gb475 30 #[.int .i64 0, .int .i64 0, .slice none 0 0, .slice none 0 0] (0, 0) _ rfl kS Tryz.underlying30 rfl (by kernel_rfl)) rfl ?_
  exact ⟨_, _, eS, by first | exact Kd.S_nil _ _ _ _ _ | exact Kd.N_nil _ _ _ _ _ | exact Kd.V_nil _ _ _ _ _ | exact Kd.Q_nil _ _ _ _ _ | exact Kd.R_nil _ _ _ _ _, by first | exact Kd.S_nil _ _ _ _ _ | exact Kd.N_nil _ _ _ _ _ | exact Kd.V_nil _ _ _ _ _ | exact Kd.Q_nil _ _ _ _ _ | exact Kd.R_nil _ _ _ _ _, bS⟩

/-! ### impl_rowOk: function 165 -/
def impl_rowOk.l0 : Nat → List Int → Int → Int → Option (Bool)
 | 0, _, _, _ => none
 | k + 1, x8, x9, x10 => if x10 < x9 then (if 0 ≤ x10 then (if x10 < (x8.length : Int) then ((impl_within.f (rd x8 x10) 0 255).bind fun t483 => (if t483 = true then (impl_rowOk.l0 k x8 x9 (wrap64 (x10 + 1))) else (some false))) else (none)) else (none)) else (some true)
def impl_rowOk.f (k : Nat) (l0 : List Int) : Option (Bool) := if (l0.length : Int) = 32 then (impl_rowOk.l0 k l0 (l0.length : Int) 0) else (some false)
theorem impl_rowOk.calls (k : Nat) (A0 : Option Addr) (c0 : Nat) (l0 : List Int) (r : Bool) (w : World) (hr0 : Kd.C (Kd.int .i64) w A0 l0.length l0) (hc0 : l0.length ≤ c0) (h : impl_rowOk.f k l0 = some r) :
  Calls Tryz.prog 165 #[.slice A0 l0.length c0] w fun e w' => e = .returned (.bool r) ∧ Drawn0 w w' := by
 have HR0 := aM hr0
 have HC0 := aM hc0
 clear hr0 hc0
 have H := h
 clear h
 unfold impl_rowOk.f at H
 by_cases c2 : (l0.length : Int) = 32
 ·rw [if_pos c2] at H
  have c2b0 : ((l0.length : Int) == 32) = true := beq_iff_eq.mpr c2
  have c2b1 : ((l0.length : Int) != 32) = false := bne_eq_false_iff_eq.mpr c2
  clear c2
  have H' := aM H
  clear H
  go_enter Tryz.func165, Tryz.ntmps165
  go_wp2
  go_loopg [10] k (fun kq v10 w' => ∃ (x10_1 : Int), v10 = .int .i64 x10_1 ∧ Aside0 (impl_rowOk.l0 kq l0 (l0.length : Int) x10_1 = some r) ∧ Aside0 (kq ≤ k) ∧ Drawn0 w w')
  case atStart => exact ⟨(0), fS, H', ⟨Nat.le_refl _⟩, dS⟩
  case round =>
   clear H'
   try clear c1
   try clear c2
   try clear c2b0
   try clear c2b1
   try clear p2
   obtain ⟨x10_1, rfl, HA, HK1, ⟨m1, rfl⟩⟩ := hrel
   cases gk with
   | zero => exact absurd HA.out (by simp [impl_rowOk.l0])
   | succ k1 =>
    have H := HA.out
    clear HA
    simp only [impl_rowOk.l0] at H
    rcases iD H with ⟨c3b0, H⟩ | ⟨c3b0, H⟩
    ·obtain ⟨c4b0, H⟩ := iT H
     obtain ⟨c5b0, H⟩ := iT H
     replace H := bN H
     obtain ⟨t483, A6, H⟩ := H
     by_cases c7 : t483 = true
     ·subst c7
      rw [if_pos rfl] at H
      have H' := aM H
      clear H
      have p482 : 0 ≤ (x10_1 : Int) := dA
      have q482 : x10_1 < (l0.length : Int) := dA
      obtain ⟨ad482, e482, hx482_0⟩ := Kd.at_int HR0.out x10_1 p482 q482
      cases e482
      replace p482 := eq_true p482
      replace q482 := eq_true q482
      go_wp2_with (first | ((with_reducible refine gC 124 ?_); refine cM (some 15) Tryz.func124 (impl_within.calls (rd l0 x10_1) 0 255 _ _ A6.out) ?_; rintro e w' ⟨rfl, ⟨nd, rfl⟩⟩; refine ⟨_, rfl, ?_⟩))
      go_roundg k1
      case measure => have := HK1.out; omega
      case rel => exact ⟨(wrap64 (x10_1 + 1)), fS, H', ⟨by have := HK1.out; omega⟩, dS⟩
     ·obtain rfl := Bool.eq_false_iff.mpr c7
      rw [if_neg nF] at H
      obtain rfl := Option.some.inj H
      have p482 : 0 ≤ (x10_1 : Int) := dA
      have q482 : x10_1 < (l0.length : Int) := dA
      obtain ⟨ad482, e482, hx482_0⟩ := Kd.at_int HR0.out x10_1 p482 q482
      cases e482
      replace p482 := eq_true p482
      replace q482 := eq_true q482
      go_wp2_with (first | ((with_reducible refine gC 124 ?_); refine cM (some 15) Tryz.func124 (impl_within.calls (rd l0 x10_1) 0 255 _ _ A6.out) ?_; rintro e w' ⟨rfl, ⟨nd, rfl⟩⟩; refine ⟨_, rfl, ?_⟩))
      go_ret
      exact ⟨fS, dS⟩
    ·obtain rfl := Option.some.inj H
     go_wp2
     go_ret
     exact ⟨fS, dS⟩
 ·rw [if_neg c2] at H
  have c2b0 : ((l0.length : Int) == 32) = false := beq_eq_false_iff_ne.mpr c2
  have c2b1 : ((l0.length : Int) != 32) = true := bne_iff_ne.mpr c2
  obtain rfl := Option.some.inj H
  go_enter Tryz.func165, Tryz.ntmps165
  go_wp2
  go_ret
  exact ⟨fS, dS⟩

/-! ### impl_RowsOk: function 111 -/
def impl_RowsOk.l0 : Nat → List (List Int) → Int → Int → Option (Bool)
 | 0, _, _, _ => none
 | k + 1, x8, x9, x10 => if x10 < x9 then (if 0 ≤ x10 then (if x10 < (x8.length : Int) then ((impl_rowOk.f k (rd_L1 x8 x10)).bind fun t485 => (if t485 = true then (impl_RowsOk.l0 k x8 x9 (wrap64 (x10 + 1))) else (some false))) else (none)) else (none)) else (some true)
def impl_RowsOk.f (k : Nat) (l0 : List (List Int)) : Option (Bool) := if (l0.length : Int) > 32 then (some false) else (impl_RowsOk.l0 k l0 (l0.length : Int) 0)
theorem impl_RowsOk.calls (k : Nat) (A0 : Option Addr) (c0 : Nat) (l0 : List (List Int)) (r : Bool) (w : World) (hr0 : Kd.C (Kd.slice 3 (Kd.int .i64)) w A0 l0.length l0) (hc0 : l0.length ≤ c0) (h : impl_RowsOk.f k l0 = some r) :
  Calls Tryz.prog 111 #[.slice A0 l0.length c0] w fun e w' => e = .returned (.bool r) ∧ Drawn0 w w' := by
 have HR0 := aM hr0
 have HC0 := aM hc0
 clear hr0 hc0
 have H := h
 clear h
 unfold impl_RowsOk.f at H
 by_cases c2 : (l0.length : Int) > 32
 ·rw [if_pos c2] at H
  have c2b0 : decide (32 < (l0.length : Int)) = true := decide_eq_true c2
  have c2b1 : decide (32 < l0.length) = true := decide_eq_true (by omega)
  clear c2
  obtain rfl := Option.some.inj H
  go_enter Tryz.func111, Tryz.ntmps111
  go_wp2
  go_ret
  exact ⟨fS, dS⟩
 ·rw [if_neg c2] at H
  have c2b0 : decide (32 < (l0.length : Int)) = false := decide_eq_false c2
  have c2b1 : decide (32 < l0.length) = false := decide_eq_false (by omega)
  clear c2
  have H' := aM H
  clear H
  go_enter Tryz.func111, Tryz.ntmps111
  go_wp2
  go_loopg [10] k (fun kq v10 w' => ∃ (x10_1 : Int), v10 = .int .i64 x10_1 ∧ Aside0 (impl_RowsOk.l0 kq l0 (l0.length : Int) x10_1 = some r) ∧ Aside0 (kq ≤ k) ∧ Drawn0 w w')
  case atStart => exact ⟨(0), fS, H', ⟨Nat.le_refl _⟩, dS⟩
  case round =>
   clear H'
   try clear c1
   try clear c2
   try clear c2b0
   try clear c2b1
   try clear p2
   obtain ⟨x10_1, rfl, HA, HK1, ⟨m1, rfl⟩⟩ := hrel
   cases gk with
   | zero => exact absurd HA.out (by simp [impl_RowsOk.l0])
   | succ k1 =>
    have H := HA.out
    clear HA
    simp only [impl_RowsOk.l0] at H
    rcases iD H with ⟨c3b0, H⟩ | ⟨c3b0, H⟩
    ·obtain ⟨c4b0, H⟩ := iT H
     obtain ⟨c5b0, H⟩ := iT H
     replace H := bN H
     obtain ⟨t485, A6, H⟩ := H
     by_cases c7 : t485 = true
     ·subst c7
      rw [if_pos rfl] at H
      have H' := aM H
      clear H
      have p484 : 0 ≤ (x10_1 : Int) := dA
      have q484 : x10_1 < (l0.length : Int) := dA
      obtain ⟨ad484, A484_0, c484_0, e484, hx484_0, hl484_0, hi484_0⟩ := at_L1 HR0.out x10_1 p484 q484
      cases e484
      have HR484_0 := aM hi484_0
      have HC484_0 := aM hl484_0
      clear hi484_0 hl484_0
      replace p484 := eq_true p484
      replace q484 := eq_true q484
      go_wp2_with (first | ((with_reducible refine gC 165 ?_); refine cL (some 15) Tryz.func165 #[.slice A484_0 (rd_L1 l0 x10_1).length c484_0] ?_; (with_reducible refine (impl_rowOk.calls k1 _ _ (rd_L1 l0 x10_1) _ _ ?side1 ?side2 A6.out).mono ?_); (case side1 => exact cS HR484_0.out); (case side2 => exact HC484_0.out); rintro e w' ⟨rfl, ⟨nd, rfl⟩⟩; refine ⟨_, rfl, ?_⟩))
      go_roundg k1
      case measure => have := HK1.out; omega
      case rel => exact ⟨(wrap64 (x10_1 + 1)), fS, H', ⟨by have := HK1.out; omega⟩, dS⟩
     ·obtain rfl := Bool.eq_false_iff.mpr c7
      rw [if_neg nF] at H
      obtain rfl := Option.some.inj H
      have p484 : 0 ≤ (x10_1 : Int) := dA
      have q484 : x10_1 < (l0.length : Int) := dA
      obtain ⟨ad484, A484_0, c484_0, e484, hx484_0, hl484_0, hi484_0⟩ := at_L1 HR0.out x10_1 p484 q484
      cases e484
      have HR484_0 := aM hi484_0
      have HC484_0 := aM hl484_0
      clear hi484_0 hl484_0
      replace p484 := eq_true p484
      replace q484 := eq_true q484
      go_wp2_with (first | ((with_reducible refine gC 165 ?_); refine cL (some 15) Tryz.func165 #[.slice A484_0 (rd_L1 l0 x10_1).length c484_0] ?_; (with_reducible refine (impl_rowOk.calls k1 _ _ (rd_L1 l0 x10_1) _ _ ?side1 ?side2 A6.out).mono ?_); (case side1 => exact cS HR484_0.out); (case side2 => exact HC484_0.out); rintro e w' ⟨rfl, ⟨nd, rfl⟩⟩; refine ⟨_, rfl, ?_⟩))
      go_ret
      exact ⟨fS, dS⟩
    ·obtain rfl := Option.some.inj H
     go_wp2
     go_ret
     exact ⟨fS, dS⟩

/-! ### impl_coordOk: function 173 -/
def impl_coordOk.f (a0 : Int) : Option (Bool) := (impl_within.f a0 (-200) 200).bind fun t486 => (some t486)
theorem impl_coordOk.calls (a0 : Int) (r : Bool) (w : World) (h : impl_coordOk.f a0 = some r) :
  Calls Tryz.prog 173 #[.int .i64 a0] w fun e w' => e = .returned (.bool r) ∧ Drawn0 w w' := by
 have H := h
 clear h
 unfold impl_coordOk.f at H
 replace H := bN H
 obtain ⟨t486, A2, H⟩ := H
 obtain rfl := Option.some.inj H
 go_enter Tryz.func173, Tryz.ntmps173
 go_wp2_with (first | ((with_reducible refine gC 124 ?_); refine cM (some 4) Tryz.func124 (impl_within.calls a0 (-200) 200 t486 _ A2.out) ?_; rintro e w' ⟨rfl, ⟨nd, rfl⟩⟩; refine ⟨_, rfl, ?_⟩))
 go_ret
 exact ⟨fS, dS⟩

/-! ### impl_PointOk: function 172 -/
def impl_PointOk.f (a0_0 : Int) (a0_1 : Int) : Option (Bool) := (impl_coordOk.f a0_0).bind fun t488 => (if t488 = true then ((impl_coordOk.f a0_1).bind fun t489 => (some t489)) else (some false))
theorem impl_PointOk.lf0 {p : Prop} (h : p := by
 go_enter Tryz.func172, Tryz.ntmps172
 go_wp2_with (first | ((with_reducible refine gD 1 ?_); refine bxE #[.int .i64 a0_0, .int .i64 a0_1] 151 ?_; intro gb487 hg w5 BK487 hb; have GW487 := gE hg; have GE487 := gE hg; replace HB := hB hb; clear hb hg; have hz6 := cz2 BK487) | ((with_reducible refine gC 173 ?_); refine cM (some 5) Tryz.func173 (impl_coordOk.calls a0_0 _ _ A2.out) ?_; rintro e w' ⟨rfl, ⟨nd, rfl⟩⟩; refine ⟨_, rfl, ?_⟩) | (go_at_call 173; (with_reducible refine (impl_coordOk.calls a0_1 t489 _ A4.out).mono ?_); rintro e w' ⟨rfl, ⟨nd, rfl⟩⟩))
 go_ret
 exact ⟨eS, bS⟩) : p := h
theorem impl_PointOk.calls (a0_0 : Int) (a0_1 : Int) (r : Bool) (w : World) (h : impl_PointOk.f a0_0 a0_1 = some r) :
  Calls Tryz.prog 172 #[.agg #[.int .i64 a0_0, .int .i64 a0_1]] w fun e w' => e = .returned (.bool r) ∧ Below w.heap.size w w' := by
 have hu151 := Tryz.underlying151
 have HB := aM (Below.refl w.heap.size w)
 have H := h
 clear h
 unfold impl_PointOk.f at H
 replace H := bN H
 obtain ⟨t488, A2, H⟩ := H
 by_cases c3 : t488 = true
 ·subst c3
  rw [if_pos rfl] at H
  replace H := bN H
  obtain ⟨t489, A4, H⟩ := H
  obtain rfl := Option.some.inj H
  exact impl_PointOk.lf0
 ·obtain rfl := Bool.eq_false_iff.mpr c3
  rw [if_neg nF] at H
  obtain rfl := Option.some.inj H
  exact impl_PointOk.lf0

/-! ### impl_pointsOk: function 125 -/
def impl_pointsOk.l0 : Nat → List (S151) → Int → Int → Option (Bool)
 | 0, _, _, _ => none
 | k + 1, x5, x6, x7 => if x7 < x6 then (if 0 ≤ x7 then (if x7 < (x5.length : Int) then ((impl_PointOk.f ((rd_T151 x5 x7).f0) ((rd_T151 x5 x7).f1)).bind fun t492 => (if t492 = true then (impl_pointsOk.l0 k x5 x6 (wrap64 (x7 + 1))) else (some false))) else (none)) else (none)) else (some true)
def impl_pointsOk.f (k : Nat) (l0 : List (S151)) : Option (Bool) := impl_pointsOk.l0 k l0 (l0.length : Int) 0
theorem impl_pointsOk.calls (k : Nat) (A0 : Option Addr) (c0 : Nat) (l0 : List (S151)) (r : Bool) (w : World) (hr0 : Kd.C k151 w A0 l0.length l0) (hc0 : l0.length ≤ c0) (h : impl_pointsOk.f k l0 = some r) :
  Calls Tryz.prog 125 #[.slice A0 l0.length c0] w fun e w' => e = .returned (.bool r) ∧ Below w.heap.size w w' := by
 have hu151 := Tryz.underlying151
 have HR0 := aM hr0
 have HC0 := aM hc0
 clear hr0 hc0
 have HB := aM (Below.refl w.heap.size w)
 have H := h
 clear h
 unfold impl_pointsOk.f at H
 have H' := aM H
 clear H
 go_enter Tryz.func125, Tryz.ntmps125
 go_wp2
 go_loopg [7] k (fun kq v7 w' => ∃ (x7_1 : Int), v7 = .int .i64 x7_1 ∧ Aside0 (impl_pointsOk.l0 kq l0 (l0.length : Int) x7_1 = some r) ∧ Aside0 (kq ≤ k) ∧ Aside0 (Below w.heap.size w w'))
 case atStart => exact ⟨(0), fS, H', ⟨Nat.le_refl _⟩, ⟨bS⟩⟩
 case round =>
  clear H'
  try clear c1
  obtain ⟨x7_1, rfl, HA, HK1, HB⟩ := hrel
  cases gk with
  | zero => exact absurd HA.out (by simp [impl_pointsOk.l0])
  | succ k1 =>
   have H := HA.out
   clear HA
   simp only [impl_pointsOk.l0] at H
   rcases iD H with ⟨c2b0, H⟩ | ⟨c2b0, H⟩
   ·obtain ⟨c3b0, H⟩ := iT H
    obtain ⟨c4b0, H⟩ := iT H
    replace H := bN H
    obtain ⟨t492, A5, H⟩ := H
    by_cases c6 : t492 = true
    ·subst c6
     rw [if_pos rfl] at H
     have H' := aM H
     clear H
     have p490 : 0 ≤ (x7_1 : Int) := dA
     have q490 : x7_1 < (l0.length : Int) := dA
     obtain ⟨ad490, e490, hx490_0, hx490_1⟩ := at_T151 HR0.out x7_1 p490 q490
     cases e490
     replace hx490_0 := cB HB hx490_0
     replace hx490_1 := cB HB hx490_1
     replace p490 := eq_true p490
     replace q490 := eq_true q490
     go_wp2_with (first | ((with_reducible refine gD 4 ?_); refine bxE #[.int .i64 0, .int .i64 0] 151 ?_; intro gb491 hg w7 BK491 hb; have GW491 := gE hg; have GE491 := gE hg; replace HB := hB hb; clear hb hg; have hz8 := cz2 BK491) | ((with_reducible refine gC 172 ?_); refine cM (some 12) Tryz.func172 (impl_PointOk.calls ((rd_T151 l0 x7_1).f0) ((rd_T151 l0 x7_1).f1) _ _ A5.out) ?_; rintro e w9 ⟨rfl, hb⟩; refine ⟨_, rfl, ?_⟩; replace BK491 := kO gb491 #[.int .i64 ((rd_T151 l0 x7_1).f0), .int .i64 ((rd_T151 l0 x7_1).f1)] 151 hb; replace HB := hB hb; (try clear hb)))
     go_roundg k1
     case measure => have := HK1.out; omega
     case rel => exact ⟨(wrap64 (x7_1 + 1)), fS, H', ⟨by have := HK1.out; omega⟩, ⟨bS⟩⟩
    ·obtain rfl := Bool.eq_false_iff.mpr c6
     rw [if_neg nF] at H
     obtain rfl := Option.some.inj H
     have p490 : 0 ≤ (x7_1 : Int) := dA
     have q490 : x7_1 < (l0.length : Int) := dA
     obtain ⟨ad490, e490, hx490_0, hx490_1⟩ := at_T151 HR0.out x7_1 p490 q490
     cases e490
     replace hx490_0 := cB HB hx490_0
     replace hx490_1 := cB HB hx490_1
     replace p490 := eq_true p490
     replace q490 := eq_true q490
     go_wp2_with (first | ((with_reducible refine gD 4 ?_); refine bxE #[.int .i64 0, .int .i64 0] 151 ?_; intro gb491 hg w10 BK491 hb; have GW491 := gE hg; have GE491 := gE hg; replace HB := hB hb; clear hb hg; have hz11 := cz2 BK491) | ((with_reducible refine gC 172 ?_); refine cM (some 12) Tryz.func172 (impl_PointOk.calls ((rd_T151 l0 x7_1).f0) ((rd_T151 l0 x7_1).f1) _ _ A5.out) ?_; rintro e w12 ⟨rfl, hb⟩; refine ⟨_, rfl, ?_⟩; replace BK491 := kO gb491 #[.int .i64 ((rd_T151 l0 x7_1).f0), .int .i64 ((rd_T151 l0 x7_1).f1)] 151 hb; replace HB := hB hb; (try clear hb)))
     go_ret
     exact ⟨eS, bS⟩
   ·obtain rfl := Option.some.inj H
    go_wp2
    go_ret
    exact ⟨eS, bS⟩

/-! ### impl_BoxOk: function 126 -/
def impl_BoxOk.f (a0_0 : Int) (a0_1 : Int) (a0_2 : Int) (a0_3 : Int) : Option (Bool) := (impl_coordOk.f a0_0).bind fun t494 => (if t494 = true then ((impl_coordOk.f a0_1).bind fun t495 => (if t495 = true then ((impl_coordOk.f a0_2).bind fun t496 => (if t496 = true then ((impl_coordOk.f a0_3).bind fun t497 => (if t497 = true then (if a0_0 ≤ a0_2 then (some (decide (a0_1 ≤ a0_3))) else (some false)) else (some false))) else (some false))) else (some false))) else (some false))
theorem impl_BoxOk.lf0 {p : Prop} (h : p := by
 go_enter Tryz.func126, Tryz.ntmps126
 go_wp2_with (first | ((with_reducible refine gD 1 ?_); refine bxE #[.int .i64 a0_0, .int .i64 a0_1, .int .i64 a0_2, .int .i64 a0_3] 47 ?_; intro gb493 hg w11 BK493 hb; have GW493 := gE hg; have GE493 := gE hg; replace HB := hB hb; clear hb hg; have hz12 := cz4 BK493) | ((with_reducible refine gC 173 ?_); refine cM (some 5) Tryz.func173 (impl_coordOk.calls a0_0 _ _ A2.out) ?_; rintro e w' ⟨rfl, ⟨nd, rfl⟩⟩; refine ⟨_, rfl, ?_⟩) | (go_at_call 173; (with_reducible refine (impl_coordOk.calls a0_1 _ _ A4.out).mono ?_); rintro e w' ⟨rfl, ⟨nd, rfl⟩⟩) | (go_at_call 173; (with_reducible refine (impl_coordOk.calls a0_2 _ _ A6.out).mono ?_); rintro e w' ⟨rfl, ⟨nd, rfl⟩⟩) | (go_at_call 173; (with_reducible refine (impl_coordOk.calls a0_3 _ _ A8.out).mono ?_); rintro e w' ⟨rfl, ⟨nd, rfl⟩⟩))
 go_ret
 exact ⟨eS, bS⟩) : p := h
theorem impl_BoxOk.calls (a0_0 : Int) (a0_1 : Int) (a0_2 : Int) (a0_3 : Int) (r : Bool) (w : World) (h : impl_BoxOk.f a0_0 a0_1 a0_2 a0_3 = some r) :
  Calls Tryz.prog 126 #[.agg #[.int .i64 a0_0, .int .i64 a0_1, .int .i64 a0_2, .int .i64 a0_3]] w fun e w' => e = .returned (.bool r) ∧ Below w.heap.size w w' := by
 have hu47 := Tryz.underlying47
 have HB := aM (Below.refl w.heap.size w)
 have H := h
 clear h
 unfold impl_BoxOk.f at H
 replace H := bN H
 obtain ⟨t494, A2, H⟩ := H
 by_cases c3 : t494 = true
 ·subst c3
  rw [if_pos rfl] at H
  replace H := bN H
  obtain ⟨t495, A4, H⟩ := H
  by_cases c5 : t495 = true
  ·subst c5
   rw [if_pos rfl] at H
   replace H := bN H
   obtain ⟨t496, A6, H⟩ := H
   by_cases c7 : t496 = true
   ·subst c7
    rw [if_pos rfl] at H
    replace H := bN H
    obtain ⟨t497, A8, H⟩ := H
    by_cases c9 : t497 = true
    ·subst c9
     rw [if_pos rfl] at H
     rcases iD H with ⟨c10b0, H⟩ | ⟨c10b0, H⟩
     ·obtain rfl := Option.some.inj H
      exact impl_BoxOk.lf0
     ·obtain rfl := Option.some.inj H
      exact impl_BoxOk.lf0
    ·obtain rfl := Bool.eq_false_iff.mpr c9
     rw [if_neg nF] at H
     obtain rfl := Option.some.inj H
     exact impl_BoxOk.lf0
   ·obtain rfl := Bool.eq_false_iff.mpr c7
    rw [if_neg nF] at H
    obtain rfl := Option.some.inj H
    exact impl_BoxOk.lf0
  ·obtain rfl := Bool.eq_false_iff.mpr c5
   rw [if_neg nF] at H
   obtain rfl := Option.some.inj H
   exact impl_BoxOk.lf0
 ·obtain rfl := Bool.eq_false_iff.mpr c3
  rw [if_neg nF] at H
  obtain rfl := Option.some.inj H
  exact impl_BoxOk.lf0

/-! ### impl_ObjectOk: function 64 -/
def impl_ObjectOk.f (k : Nat) (l0_0 : List (S151)) (a0_1 : Int) (a0_2 : Int) (a0_3 : Int) (a0_4 : Int) (a0_5 : Int) : Option (Bool) := (impl_within.f (l0_0.length : Int) 3 8).bind fun t499 => (if t499 = true then ((impl_pointsOk.f k l0_0).bind fun t500 => (if t500 = true then ((impl_within.f a0_1 0 255).bind fun t501 => (if t501 = true then ((impl_BoxOk.f a0_2 a0_3 a0_4 a0_5).bind fun t502 => (some t502)) else (some false))) else (some false))) else (some false))
theorem impl_ObjectOk.lf0 {p : Prop} (h : p := by
 go_enter Tryz.func64, Tryz.ntmps64
 go_wp2_with (first | ((with_reducible refine gD 1 ?_); refine bxE #[.slice A0_0 l0_0.length c0_0, .int .i64 a0_1, .int .i64 a0_2, .int .i64 a0_3, .int .i64 a0_4, .int .i64 a0_5] 49 ?_; intro gb498 hg w9 BK498 hb; have GW498 := gE hg; have GE498 := gE hg; replace HB := hB hb; clear hb hg; have hz10 := cz6 BK498) | ((with_reducible refine gC 124 ?_); refine cM (some 6) Tryz.func124 (impl_within.calls (l0_0.length : Int) 3 8 _ _ A2.out) ?_; rintro e w' ⟨rfl, ⟨nd, rfl⟩⟩; refine ⟨_, rfl, ?_⟩) | (go_at_call 125; (with_reducible refine (impl_pointsOk.calls k _ _ l0_0 _ _ (cS (Kd.C_below HR0_0.out bS)) HC0_0.out A4.out).mono ?_); rintro e w11 ⟨rfl, hb⟩; replace BK498 := kB_ gb498 hb; replace HB := hB hb; (try clear hb); have hz12 := cz6 BK498) | (go_at_call 124; (with_reducible refine (impl_within.calls a0_1 0 255 _ _ A6.out).mono ?_); rintro e w' ⟨rfl, ⟨nd, rfl⟩⟩) | (go_at_call 126; (with_reducible refine (impl_BoxOk.calls a0_2 a0_3 a0_4 a0_5 t502 _ A8.out).mono ?_); rintro e w13 ⟨rfl, hb⟩; replace BK498 := kB_ gb498 hb; replace HB := hB hb; (try clear hb)))
 go_ret
 exact ⟨eS, bS⟩) : p := h
theorem impl_ObjectOk.calls (k : Nat) (A0_0 : Option Addr) (c0_0 : Nat) (l0_0 : List (S151)) (a0_1 : Int) (a0_2 : Int) (a0_3 : Int) (a0_4 : Int) (a0_5 : Int) (r : Bool) (w : World) (hr0_0 : Kd.C k151 w A0_0 l0_0.length l0_0) (hc0_0 : l0_0.length ≤ c0_0) (h : impl_ObjectOk.f k l0_0 a0_1 a0_2 a0_3 a0_4 a0_5 = some r) :
  Calls Tryz.prog 64 #[.agg #[.slice A0_0 l0_0.length c0_0, .int .i64 a0_1, .int .i64 a0_2, .int .i64 a0_3, .int .i64 a0_4, .int .i64 a0_5]] w fun e w' => e = .returned (.bool r) ∧ Below w.heap.size w w' := by
 have hu49 := Tryz.underlying49
 have hu47 := Tryz.underlying47
 have HR0_0 := aM hr0_0
 have HC0_0 := aM hc0_0
 clear hr0_0 hc0_0
 have HB := aM (Below.refl w.heap.size w)
 have H := h
 clear h
 unfold impl_ObjectOk.f at H
 replace H := bN H
 obtain ⟨t499, A2, H⟩ := H
 by_cases c3 : t499 = true
 ·subst c3
  rw [if_pos rfl] at H
  replace H := bN H
  obtain ⟨t500, A4, H⟩ := H
  by_cases c5 : t500 = true
  ·subst c5
   rw [if_pos rfl] at H
   replace H := bN H
   obtain ⟨t501, A6, H⟩ := H
   by_cases c7 : t501 = true
   ·subst c7
    rw [if_pos rfl] at H
    replace H := bN H
    obtain ⟨t502, A8, H⟩ := H
    obtain rfl := Option.some.inj H
    exact impl_ObjectOk.lf0
   ·obtain rfl := Bool.eq_false_iff.mpr c7
    rw [if_neg nF] at H
    obtain rfl := Option.some.inj H
    exact impl_ObjectOk.lf0
  ·obtain rfl := Bool.eq_false_iff.mpr c5
   rw [if_neg nF] at H
   obtain rfl := Option.some.inj H
   go_enter Tryz.func64, Tryz.ntmps64
   go_wp2_with (first | ((with_reducible refine gD 1 ?_); refine bxE #[.slice A0_0 l0_0.length c0_0, .int .i64 a0_1, .int .i64 a0_2, .int .i64 a0_3, .int .i64 a0_4, .int .i64 a0_5] 49 ?_; intro gb498 hg w18 BK498 hb; have GW498 := gE hg; have GE498 := gE hg; replace HB := hB hb; clear hb hg; have hz19 := cz6 BK498) | ((with_reducible refine gC 124 ?_); refine cM (some 6) Tryz.func124 (impl_within.calls (l0_0.length : Int) 3 8 _ _ A2.out) ?_; rintro e w' ⟨rfl, ⟨nd, rfl⟩⟩; refine ⟨_, rfl, ?_⟩) | (go_at_call 125; (with_reducible refine (impl_pointsOk.calls k _ _ l0_0 _ _ (cS (Kd.C_below HR0_0.out bS)) HC0_0.out A4.out).mono ?_); rintro e w20 ⟨rfl, hb⟩; replace BK498 := kB_ gb498 hb; replace HB := hB hb; (try clear hb)))
   go_ret
   exact ⟨eS, bS⟩
 ·obtain rfl := Bool.eq_false_iff.mpr c3
  rw [if_neg nF] at H
  obtain rfl := Option.some.inj H
  exact impl_ObjectOk.lf0

/-! ### impl_objectsOk: function 112 -/
def impl_objectsOk.l0 : Nat → List (S49) → Int → Int → Option (Bool)
 | 0, _, _, _ => none
 | k + 1, x5, x6, x7 => if x7 < x6 then (if 0 ≤ x7 then (if x7 < (x5.length : Int) then ((impl_ObjectOk.f k ((rd_T49 x5 x7).f0) ((rd_T49 x5 x7).f1) ((rd_T49 x5 x7).f2.f0) ((rd_T49 x5 x7).f2.f1) ((rd_T49 x5 x7).f2.f2) ((rd_T49 x5 x7).f2.f3)).bind fun t505 => (if t505 = true then (impl_objectsOk.l0 k x5 x6 (wrap64 (x7 + 1))) else (some false))) else (none)) else (none)) else (some true)
def impl_objectsOk.f (k : Nat) (l0 : List (S49)) : Option (Bool) := impl_objectsOk.l0 k l0 (l0.length : Int) 0
theorem impl_objectsOk.calls (k : Nat) (A0 : Option Addr) (c0 : Nat) (l0 : List (S49)) (r : Bool) (w : World) (hr0 : Kd.C k49 w A0 l0.length l0) (hc0 : l0.length ≤ c0) (h : impl_objectsOk.f k l0 = some r) :
  Calls Tryz.prog 112 #[.slice A0 l0.length c0] w fun e w' => e = .returned (.bool r) ∧ Below w.heap.size w w' := by
 have hu49 := Tryz.underlying49
 have HR0 := aM hr0
 have HC0 := aM hc0
 clear hr0 hc0
 have HB := aM (Below.refl w.heap.size w)
 have H := h
 clear h
 unfold impl_objectsOk.f at H
 have H' := aM H
 clear H
 go_enter Tryz.func112, Tryz.ntmps112
 go_wp2
 go_loopg [7] k (fun kq v7 w' => ∃ (x7_1 : Int), v7 = .int .i64 x7_1 ∧ Aside0 (impl_objectsOk.l0 kq l0 (l0.length : Int) x7_1 = some r) ∧ Aside0 (kq ≤ k) ∧ Aside0 (Below w.heap.size w w'))
 case atStart => exact ⟨(0), fS, H', ⟨Nat.le_refl _⟩, ⟨bS⟩⟩
 case round =>
  clear H'
  try clear c1
  obtain ⟨x7_1, rfl, HA, HK1, HB⟩ := hrel
  cases gk with
  | zero => exact absurd HA.out (by simp [impl_objectsOk.l0])
  | succ k1 =>
   have H := HA.out
   clear HA
   simp only [impl_objectsOk.l0] at H
   rcases iD H with ⟨c2b0, H⟩ | ⟨c2b0, H⟩
   ·obtain ⟨c3b0, H⟩ := iT H
    obtain ⟨c4b0, H⟩ := iT H
    replace H := bN H
    obtain ⟨t505, A5, H⟩ := H
    by_cases c6 : t505 = true
    ·subst c6
     rw [if_pos rfl] at H
     have H' := aM H
     clear H
     have p503 : 0 ≤ (x7_1 : Int) := dA
     have q503 : x7_1 < (l0.length : Int) := dA
     obtain ⟨ad503, A503_0, c503_0, e503, hx503_0, hx503_1, hx503_2, hx503_3, hx503_4, hx503_5, hl503_0, hi503_0⟩ := at_T49 HR0.out x7_1 p503 q503
     cases e503
     replace hx503_0 := cB HB hx503_0
     replace hx503_1 := cB HB hx503_1
     replace hx503_2 := cB HB hx503_2
     replace hx503_3 := cB HB hx503_3
     replace hx503_4 := cB HB hx503_4
     replace hx503_5 := cB HB hx503_5
     have HR503_0 := aM hi503_0
     have HC503_0 := aM hl503_0
     clear hi503_0 hl503_0
     replace p503 := eq_true p503
     replace q503 := eq_true q503
     go_wp2_with (first | ((with_reducible refine gD 4 ?_); refine bxE #[.slice none 0 0, .int .i64 0, .int .i64 0, .int .i64 0, .int .i64 0, .int .i64 0] 49 ?_; intro gb504 hg w7 BK504 hb; have GW504 := gE hg; have GE504 := gE hg; replace HB := hB hb; clear hb hg; have hz8 := cz6 BK504) | ((with_reducible refine gC 64 ?_); refine cM (some 12) Tryz.func64 (impl_ObjectOk.calls k1 _ _ ((rd_T49 l0 x7_1).f0) ((rd_T49 l0 x7_1).f1) ((rd_T49 l0 x7_1).f2.f0) ((rd_T49 l0 x7_1).f2.f1) ((rd_T49 l0 x7_1).f2.f2) ((rd_T49 l0 x7_1).f2.f3) _ _ (Kd.C_below HR503_0.out bS) HC503_0.out A5.out) ?_; rintro e w9 ⟨rfl, hb⟩; refine ⟨_, rfl, ?_⟩; replace BK504 := kO gb504 #[.slice A503_0 ((rd_T49 l0 x7_1).f0).length c503_0, .int .i64 ((rd_T49 l0 x7_1).f1), .int .i64 ((rd_T49 l0 x7_1).f2.f0), .int .i64 ((rd_T49 l0 x7_1).f2.f1), .int .i64 ((rd_T49 l0 x7_1).f2.f2), .int .i64 ((rd_T49 l0 x7_1).f2.f3)] 49 hb; replace HB := hB hb; (try clear hb)))
     go_roundg k1
     case measure => have := HK1.out; omega
     case rel => exact ⟨(wrap64 (x7_1 + 1)), fS, H', ⟨by have := HK1.out; omega⟩, ⟨bS⟩⟩
    ·obtain rfl := Bool.eq_false_iff.mpr c6
     rw [if_neg nF] at H
     obtain rfl := Option.some.inj H
     have p503 : 0 ≤ (x7_1 : Int) := dA
     have q503 : x7_1 < (l0.length : Int) := dA
     obtain ⟨ad503, A503_0, c503_0, e503, hx503_0, hx503_1, hx503_2, hx503_3, hx503_4, hx503_5, hl503_0, hi503_0⟩ := at_T49 HR0.out x7_1 p503 q503
     cases e503
     replace hx503_0 := cB HB hx503_0
     replace hx503_1 := cB HB hx503_1
     replace hx503_2 := cB HB hx503_2
     replace hx503_3 := cB HB hx503_3
     replace hx503_4 := cB HB hx503_4
     replace hx503_5 := cB HB hx503_5
     have HR503_0 := aM hi503_0
     have HC503_0 := aM hl503_0
     clear hi503_0 hl503_0
     replace p503 := eq_true p503
     replace q503 := eq_true q503
     go_wp2_with (first | ((with_reducible refine gD 4 ?_); refine bxE #[.slice none 0 0, .int .i64 0, .int .i64 0, .int .i64 0, .int .i64 0, .int .i64 0] 49 ?_; intro gb504 hg w10 BK504 hb; have GW504 := gE hg; have GE504 := gE hg; replace HB := hB hb; clear hb hg; have hz11 := cz6 BK504) | ((with_reducible refine gC 64 ?_); refine cM (some 12) Tryz.func64 (impl_ObjectOk.calls k1 _ _ ((rd_T49 l0 x7_1).f0) ((rd_T49 l0 x7_1).f1) ((rd_T49 l0 x7_1).f2.f0) ((rd_T49 l0 x7_1).f2.f1) ((rd_T49 l0 x7_1).f2.f2) ((rd_T49 l0 x7_1).f2.f3) _ _ (Kd.C_below HR503_0.out bS) HC503_0.out A5.out) ?_; rintro e w12 ⟨rfl, hb⟩; refine ⟨_, rfl, ?_⟩; replace BK504 := kO gb504 #[.slice A503_0 ((rd_T49 l0 x7_1).f0).length c503_0, .int .i64 ((rd_T49 l0 x7_1).f1), .int .i64 ((rd_T49 l0 x7_1).f2.f0), .int .i64 ((rd_T49 l0 x7_1).f2.f1), .int .i64 ((rd_T49 l0 x7_1).f2.f2), .int .i64 ((rd_T49 l0 x7_1).f2.f3)] 49 hb; replace HB := hB hb; (try clear hb)))
     go_ret
     exact ⟨eS, bS⟩
   ·obtain rfl := Option.some.inj H
    go_wp2
    go_ret
    exact ⟨eS, bS⟩

/-! ### impl_BandOk: function 46 -/
def impl_BandOk.f (k : Nat) (a0_0 : Int) (a0_1 : Int) (l0_2 : List (List Int)) (l0_3 : List (S49)) : Option (Bool) := (impl_NewBand.f k a0_0 a0_1).bind fun bt507 => (if bt507.2.2.2.2 = true then (if (l0_2.length : Int) = a0_0 then ((impl_RowsOk.f k l0_2).bind fun t517 => (if t517 = true then ((impl_objectsOk.f k l0_3).bind fun t518 => (if t518 = true then ((impl_BandCells.f k a0_0 a0_1 l0_2 l0_3).bind fun t519 => (some (decide (t519 ≤ 60)))) else (some false))) else (some false))) else (some false)) else (some false))
theorem impl_BandOk.lf0 {p : Prop} (h : p := by
 go_enter Tryz.func46, Tryz.ntmps46
 go_wp2_with (first | ((with_reducible refine gD 1 ?_); refine bxE #[.int .i64 a0_0, .int .i64 a0_1, .slice A0_2 l0_2.length c0_2, .slice A0_3 l0_3.length c0_3] 30 ?_; intro gb506 hg w10 BK506 hb; have GW506 := gE hg; have GE506 := gE hg; replace HB := hB hb; clear hb hg; have hz11 := cz4 BK506) | ((with_reducible refine gC 110 ?_); refine cM (some 10) Tryz.func110 (impl_NewBand.calls k a0_0 a0_1 t507 t508 t509 t512 _ _ A2.out) ?_; rintro e w12 ⟨v510, v513, rfl, ho0, ho1, hb⟩; refine ⟨_, rfl, ?_⟩; have HO511 := aM (Kd.S_lower ho0 (below_size bS)); have HO514 := aM (Kd.S_lower ho1 (below_size bS)); replace BK506 := kB_ gb506 hb; replace HB := hB hb; (try clear hb ho0 ho1)) | ((with_reducible refine gD 3 ?_); refine bxE #[.int .i64 0, .int .i64 0, .slice none 0 0, .slice none 0 0] 30 ?_; intro gb516 hg w13 BK516 hb; have GW516 := gE hg; have GE516 := gE hg; have NB506_516 := nL_ gb506 hg; have NB516_506 := nG_ gb506 hg; replace HO511 := sB HO511 hb; replace HO514 := sB HO514 hb; replace BK506 := kB_ gb506 hb; replace HB := hB hb; clear hb hg; have hnb14 := NB516_506.out; have hnc14 := NB506_516.out; have hz15 := cz4 BK516; obtain ⟨Ao16, co16, eo16⟩ := Kd.S_slice HO511.out; subst eo16; obtain ⟨Ao17, co17, eo17⟩ := Kd.S_slice HO514.out; subst eo17; have hz18 := cz4 BK506) | (go_at_call 111; (with_reducible refine (impl_RowsOk.calls k _ _ l0_2 _ _ (Kd.C_below HR0_2.out bS) HC0_2.out A5.out).mono ?_); rintro e w' ⟨rfl, ⟨nd, rfl⟩⟩) | (go_at_call 112; (with_reducible refine (impl_objectsOk.calls k _ _ l0_3 _ _ (Kd.C_below HR0_3.out bS) HC0_3.out A7.out).mono ?_); rintro e w19 ⟨rfl, hb⟩; replace HO511 := aM (Kd.S_below (by exact sG HO511 BK516) hb); replace HO514 := aM (Kd.S_below (by exact sG HO514 BK516) hb); replace BK506 := kB_ gb506 hb; replace BK516 := kO gb516 #[.int .i64 t507, .int .i64 t508, .slice Ao16 t509.length co16, .slice Ao17 t512.length co17] 30 hb; replace HB := hB hb; (try clear hb hk); have hz20 := cz4 BK506) | (go_at_call 66; (with_reducible refine (impl_BandCells.calls k a0_0 a0_1 _ _ l0_2 _ _ l0_3 t519 _ (cC HR0_2 HB) HC0_2.out (cC HR0_3 HB) HC0_3.out A9.out).mono ?_); rintro e w21 ⟨rfl, hb⟩; replace HO511 := sB HO511 hb; replace HO514 := sB HO514 hb; replace BK506 := kB_ gb506 hb; replace BK516 := kB_ gb516 hb; replace HB := hB hb; (try clear hb)))
 go_ret
 exact ⟨eS, bS⟩) : p := h
theorem impl_BandOk.calls (k : Nat) (a0_0 : Int) (a0_1 : Int) (A0_2 : Option Addr) (c0_2 : Nat) (l0_2 : List (List Int)) (A0_3 : Option Addr) (c0_3 : Nat) (l0_3 : List (S49)) (r : Bool) (w : World) (hr0_2 : Kd.C (Kd.slice 3 (Kd.int .i64)) w A0_2 l0_2.length l0_2) (hc0_2 : l0_2.length ≤ c0_2) (hr0_3 : Kd.C k49 w A0_3 l0_3.length l0_3) (hc0_3 : l0_3.length ≤ c0_3) (h : impl_BandOk.f k a0_0 a0_1 l0_2 l0_3 = some r) :
  Calls Tryz.prog 46 #[.agg #[.int .i64 a0_0, .int .i64 a0_1, .slice A0_2 l0_2.length c0_2, .slice A0_3 l0_3.length c0_3]] w fun e w' => e = .returned (.bool r) ∧ Below w.heap.size w w' := by
 have hu30 := Tryz.underlying30
 have HR0_2 := aM hr0_2
 have HC0_2 := aM hc0_2
 clear hr0_2 hc0_2
 have HR0_3 := aM hr0_3
 have HC0_3 := aM hc0_3
 clear hr0_3 hc0_3
 have HB := aM (Below.refl w.heap.size w)
 have H := h
 clear h
 unfold impl_BandOk.f at H
 replace H := bN H
 obtain ⟨⟨t507, t508, t509, t512, t515⟩, A2, H⟩ := H
 by_cases c3 : t515 = true
 ·subst c3
  rw [if_pos rfl] at H
  by_cases c4 : (l0_2.length : Int) = a0_0
  ·rw [if_pos c4] at H
   have c4b0 : ((l0_2.length : Int) == a0_0) = true := beq_iff_eq.mpr c4
   have c4b1 : ((l0_2.length : Int) != a0_0) = false := bne_eq_false_iff_eq.mpr c4
   clear c4
   replace H := bN H
   obtain ⟨t517, A5, H⟩ := H
   by_cases c6 : t517 = true
   ·subst c6
    rw [if_pos rfl] at H
    replace H := bN H
    obtain ⟨t518, A7, H⟩ := H
    by_cases c8 : t518 = true
    ·subst c8
     rw [if_pos rfl] at H
     replace H := bN H
     obtain ⟨t519, A9, H⟩ := H
     obtain rfl := Option.some.inj H
     exact impl_BandOk.lf0
    ·obtain rfl := Bool.eq_false_iff.mpr c8
     rw [if_neg nF] at H
     obtain rfl := Option.some.inj H
     go_enter Tryz.func46, Tryz.ntmps46
     go_wp2_with (first | ((with_reducible refine gD 1 ?_); refine bxE #[.int .i64 a0_0, .int .i64 a0_1, .slice A0_2 l0_2.length c0_2, .slice A0_3 l0_3.length c0_3] 30 ?_; intro gb506 hg w22 BK506 hb; have GW506 := gE hg; have GE506 := gE hg; replace HB := hB hb; clear hb hg; have hz23 := cz4 BK506) | ((with_reducible refine gC 110 ?_); refine cM (some 10) Tryz.func110 (impl_NewBand.calls k a0_0 a0_1 t507 t508 t509 t512 _ _ A2.out) ?_; rintro e w24 ⟨v510, v513, rfl, ho0, ho1, hb⟩; refine ⟨_, rfl, ?_⟩; have HO511 := aM (Kd.S_lower ho0 (below_size bS)); have HO514 := aM (Kd.S_lower ho1 (below_size bS)); replace BK506 := kB_ gb506 hb; replace HB := hB hb; (try clear hb ho0 ho1)) | ((with_reducible refine gD 3 ?_); refine bxE #[.int .i64 0, .int .i64 0, .slice none 0 0, .slice none 0 0] 30 ?_; intro gb516 hg w25 BK516 hb; have GW516 := gE hg; have GE516 := gE hg; have NB506_516 := nL_ gb506 hg; have NB516_506 := nG_ gb506 hg; replace HO511 := sB HO511 hb; replace HO514 := sB HO514 hb; replace BK506 := kB_ gb506 hb; replace HB := hB hb; clear hb hg; have hnb26 := NB516_506.out; have hnc26 := NB506_516.out; have hz27 := cz4 BK516; obtain ⟨Ao28, co28, eo28⟩ := Kd.S_slice HO511.out; subst eo28; obtain ⟨Ao29, co29, eo29⟩ := Kd.S_slice HO514.out; subst eo29; have hz30 := cz4 BK506) | (go_at_call 111; (with_reducible refine (impl_RowsOk.calls k _ _ l0_2 _ _ (Kd.C_below HR0_2.out bS) HC0_2.out A5.out).mono ?_); rintro e w' ⟨rfl, ⟨nd, rfl⟩⟩) | (go_at_call 112; (with_reducible refine (impl_objectsOk.calls k _ _ l0_3 _ _ (Kd.C_below HR0_3.out bS) HC0_3.out A7.out).mono ?_); rintro e w31 ⟨rfl, hb⟩; replace HO511 := aM (Kd.S_below (by exact sG HO511 BK516) hb); replace HO514 := aM (Kd.S_below (by exact sG HO514 BK516) hb); replace BK506 := kB_ gb506 hb; replace BK516 := kO gb516 #[.int .i64 t507, .int .i64 t508, .slice Ao28 t509.length co28, .slice Ao29 t512.length co29] 30 hb; replace HB := hB hb; (try clear hb hk)))
     go_ret
     exact ⟨eS, bS⟩
   ·obtain rfl := Bool.eq_false_iff.mpr c6
    rw [if_neg nF] at H
    obtain rfl := Option.some.inj H
    exact impl_BandOk.lf0
  ·rw [if_neg c4] at H
   have c4b0 : ((l0_2.length : Int) == a0_0) = false := beq_eq_false_iff_ne.mpr c4
   have c4b1 : ((l0_2.length : Int) != a0_0) = true := bne_iff_ne.mpr c4
   obtain rfl := Option.some.inj H
   exact impl_BandOk.lf0
 ·obtain rfl := Bool.eq_false_iff.mpr c3
  rw [if_neg nF] at H
  obtain rfl := Option.some.inj H
  go_enter Tryz.func46, Tryz.ntmps46
  go_wp2_with (first | ((with_reducible refine gD 1 ?_); refine bxE #[.int .i64 a0_0, .int .i64 a0_1, .slice A0_2 l0_2.length c0_2, .slice A0_3 l0_3.length c0_3] 30 ?_; intro gb506 hg w50 BK506 hb; have GW506 := gE hg; have GE506 := gE hg; replace HB := hB hb; clear hb hg; have hz51 := cz4 BK506) | ((with_reducible refine gC 110 ?_); refine cM (some 10) Tryz.func110 (impl_NewBand.calls k a0_0 a0_1 t507 t508 t509 t512 _ _ A2.out) ?_; rintro e w52 ⟨v510, v513, rfl, ho0, ho1, hb⟩; refine ⟨_, rfl, ?_⟩; have HO511 := aM (Kd.S_lower ho0 (below_size bS)); have HO514 := aM (Kd.S_lower ho1 (below_size bS)); replace BK506 := kB_ gb506 hb; replace HB := hB hb; (try clear hb ho0 ho1)) | ((with_reducible refine gD 3 ?_); refine bxE #[.int .i64 0, .int .i64 0, .slice none 0 0, .slice none 0 0] 30 ?_; intro gb516 hg w53 BK516 hb; have GW516 := gE hg; have GE516 := gE hg; have NB506_516 := nL_ gb506 hg; have NB516_506 := nG_ gb506 hg; replace HO511 := sB HO511 hb; replace HO514 := sB HO514 hb; replace BK506 := kB_ gb506 hb; replace HB := hB hb; clear hb hg; have hnb54 := NB516_506.out; have hnc54 := NB506_516.out; have hz55 := cz4 BK516; obtain ⟨Ao56, co56, eo56⟩ := Kd.S_slice HO511.out; subst eo56; obtain ⟨Ao57, co57, eo57⟩ := Kd.S_slice HO514.out; subst eo57))
  go_ret
  exact ⟨eS, bS⟩

/-! ### slices_Clone_int_int: function 148 -/
def slices_Clone_int_int.f (l0 : List Int) : Option (List Int) := (some (([] : List Int) : List Int)).bind fun y520 => (if y520.length + l0.length < 17592186044416 then (some (y520 ++ l0)) else (none))
theorem slices_Clone_int_int.calls (A0 : Option Addr) (c0 : Nat) (l0 : List Int) (r : List Int) (w : World) (hr0 : Kd.C (Kd.int .i64) w A0 l0.length l0) (hc0 : l0.length ≤ c0) (h : slices_Clone_int_int.f l0 = some r) :
  Calls Tryz.prog 148 #[.slice A0 l0.length c0] w fun e w' => ∃ v0_ : Value, e = .returned (v0_) ∧ Kd.R (Kd.int .i64) 3 w' w.heap.size (fun _ => True) v0_ r ∧ Below w.heap.size w w' := by
 obtain _ | A0 := A0
 ·have hl0 : l0 = [] := by
   rcases Nat.eq_zero_or_pos l0.length with h0 | h0
   ·exact List.eq_nil_of_length_eq_zero h0
   ·obtain ⟨ad, e, _⟩ := hr0.2.2 h0
    cases e
  subst hl0
  have hr_ : r = [] := by
   have h_ := h
   simp [slices_Clone_int_int.f] at h_
   first | exact h_ | exact h_.symm
  subst hr_
  have he_ : ∀ w : World, (binOp .eql 54 (.slice none 0 c0) (.slice none 0 0)).run Tryz.prog w = .ok (.bool true) w := fun _ => rfl
  go_enter Tryz.func148, Tryz.ntmps148
  go_wp2
  go_ret
  exact ⟨_, rfl, Kd.R_nil _ _ _ _ _, Below.refl _ _⟩
 have he_ : ∀ w : World, (binOp .eql 54 (.slice (some A0) l0.length c0) (.slice none 0 0)).run Tryz.prog w = .ok (.bool false) w := fun _ => rfl
 have HR0 := aM hr0
 have HC0 := aM hc0
 clear hr0 hc0
 have HB := aM (Below.refl w.heap.size w)
 have H := h
 clear h
 unfold slices_Clone_int_int.f at H
 obtain ⟨y520, hy_⟩ : ∃ y_ : List Int, y_ = (([] : List Int)) := ⟨_, rfl⟩
 replace H : (if y520.length + l0.length < 17592186044416 then (some (y520 ++ l0)) else (none)) = some r := yS
 have Ny520 := aM hy_
 clear hy_
 by_cases c2 : y520.length + l0.length < 17592186044416
 ·rw [if_pos c2] at H
  have LMc2 := aM c2
  clear c2
  obtain ⟨y523, hy_⟩ : ∃ y_ : List Int, y_ = (y520 ++ l0) := ⟨_, rfl⟩
  replace H : (some y523) = some r := yS
  have Ny523 := aM hy_
  clear hy_
  obtain rfl := Option.some.inj H
  go_enter Tryz.func148, Tryz.ntmps148
  go_wp2_with (first | ((with_reducible refine gate_dst (N := 5) rfl ?_); refine Kd.R_lit (Kd.int .i64) _ 3 ?hg (N := 5) ?hd (xs := ([] : List Int)) (inner := []) (ok := fun _ => True) (okp := fun _ => True) ?hr ?hp (fun _ hk => hk) trivial (Below.refl _ _) (Nat.le_refl _) (by simp) ?_; (case hd => rfl); (case hg => rfl); (case hr => first | (go_simp; done) | (go_simp; rfl)); (case hp => exact (Reps.none _ _)); intro v521 w3 ho4 hb hg_ hnew_; clear hg_ hnew_; (first | rw [← Ny520.out] at ho4 | (simp only [Int.reduceToNat] at ho4; rw [← Ny520.out] at ho4)); have HO522 := aM (Kd.R_lower ho4 (below_size bS)); replace HB := hB hb; clear hb ho4) | ((with_reducible refine gate_builtin (b := .append) (xs := #[.tmp 5, .tmp 6]) rfl ?_); at_builtin; refine Kd.R_append_rows (Kd.int .i64) (w0 := w) w.heap.size rfl (.tmp 5) (.tmp 6) 54 3 (.int .i64 0) 8 rfl Tryz.underlying54 info3 rfl (by decide) (by omega) v521 y520 l0 _ _ _ (fun _ => True) (fun _ => False) rfl rfl ?aO ?aR (fun _ _ h => h) (fun _ h => h.elim) ?aF ?aB ?aS ?aL ?_; (case aR => exact cS (Kd.C_below HR0.out HB.out)); (case aB => exact bS); (case aF => exact (fun _ _ => trivial)); (case aO => exact (rS HO522)); (case aS => exact (below_size bS)); (case aL => have := LMc2.out; omega); intro v524 w5 ho hb hg hat; rw [← Ny523.out] at ho; have HO525 := aM (ho); replace HB := aM (hb); clear HO522; clear ho hb hg hat))
  go_ret
  exact ⟨_, eS, rS HO525, bS⟩
 ·rw [if_neg c2] at H
  exact absurd H (by simp)

/-! ### impl_copyRows: function 116 -/
def impl_copyRows.l0 : Nat → List (List Int) → List (List Int) → Int → Int → Option ((List (List Int)))
 | 0, _, _, _, _ => none
 | k + 1, x3, x6, x7, x8 => if x8 < x7 then (if 0 ≤ x8 then (if x8 < (x6.length : Int) then ((slices_Clone_int_int.f (rd_L1 x6 x8)).bind fun t527 => (if x3.length < 5864062014805 then (impl_copyRows.l0 k (x3 ++ [t527]) x6 x7 (wrap64 (x8 + 1))) else (none))) else (none)) else (none)) else (some x3)
def impl_copyRows.f (k : Nat) (l0 : List (List Int)) : Option ((List (List Int))) := impl_copyRows.l0 k ([] : List (List Int)) l0 (l0.length : Int) 0
theorem impl_copyRows.calls (k : Nat) (A0 : Option Addr) (c0 : Nat) (l0 : List (List Int)) (r : List (List Int)) (w : World) (hr0 : Kd.C (Kd.slice 3 (Kd.int .i64)) w A0 l0.length l0) (hc0 : l0.length ≤ c0) (h : impl_copyRows.f k l0 = some r) :
  Calls Tryz.prog 116 #[.slice A0 l0.length c0] w fun e w' => ∃ v0_ : Value, e = .returned (v0_) ∧ Kd.S (Kd.slice 3 (Kd.int .i64)) 54 w' w.heap.size (fun _ => True) v0_ r ∧ Below w.heap.size w w' := by
 have HR0 := aM hr0
 have HC0 := aM hc0
 clear hr0 hc0
 have HB := aM (Below.refl w.heap.size w)
 have H := h
 clear h
 unfold impl_copyRows.f at H
 have H' := aM H
 clear H
 go_enter Tryz.func116, Tryz.ntmps116
 go_wp2
 go_loopg [3, 8] k (fun kq v3 v8 w' => ∃ (x3_1 : List (List Int)) (x8_1 : Int), v8 = .int .i64 x8_1 ∧ Aside0 (impl_copyRows.l0 kq x3_1 l0 (l0.length : Int) x8_1 = some r) ∧ Aside0 (kq ≤ k) ∧ Aside0 (Kd.S (Kd.slice 3 (Kd.int .i64)) 54 w' w.heap.size (fun _ => True) v3 x3_1) ∧ Aside0 (Below w.heap.size w w'))
 case atStart => exact ⟨(([] : List (List Int))), (0), fS, H', ⟨Nat.le_refl _⟩, ⟨by first | exact Kd.S_nil _ _ _ _ _ | exact Kd.N_nil _ _ _ _ _ | exact Kd.V_nil _ _ _ _ _ | exact Kd.Q_nil _ _ _ _ _ | exact Kd.R_nil _ _ _ _ _⟩, ⟨bS⟩⟩
 case round =>
  clear H'
  try clear c1
  obtain ⟨x3_1, x8_1, rfl, HA, HK1, HO_3, HB⟩ := hrel
  cases gk with
  | zero => exact absurd HA.out (by simp [impl_copyRows.l0])
  | succ k1 =>
   have H := HA.out
   clear HA
   simp only [impl_copyRows.l0] at H
   rcases iD H with ⟨c2b0, H⟩ | ⟨c2b0, H⟩
   ·obtain ⟨c3b0, H⟩ := iT H
    obtain ⟨c4b0, H⟩ := iT H
    replace H := bN H
    obtain ⟨t527, A5, H⟩ := H
    obtain ⟨LMc6, H⟩ := iL H
    obtain ⟨y530, hy_⟩ : ∃ y_ : List (List Int), y_ = (x3_1 ++ [t527]) := ⟨_, rfl⟩
    replace H : (impl_copyRows.l0 k1 y530 l0 (l0.length : Int) (wrap64 (x8_1 + 1))) = some r := yS
    have Ny530 := aM hy_
    clear hy_
    have H' := aM H
    clear H
    have p526 : 0 ≤ (x8_1 : Int) := dA
    have q526 : x8_1 < (l0.length : Int) := dA
    obtain ⟨ad526, A526_0, c526_0, e526, hx526_0, hl526_0, hi526_0⟩ := at_L1 HR0.out x8_1 p526 q526
    cases e526
    replace hx526_0 := cB HB hx526_0
    have HR526_0 := aM hi526_0
    have HC526_0 := aM hl526_0
    clear hi526_0 hl526_0
    replace p526 := eq_true p526
    replace q526 := eq_true q526
    go_wp2_with (first | ((with_reducible refine gC 148 ?_); refine cM (some 14) Tryz.func148 (slices_Clone_int_int.calls _ _ (rd_L1 l0 x8_1) t527 _ (cC HR526_0 HB) HC526_0.out A5.out) ?_; rintro e w7 ⟨v528, rfl, ho0, hb⟩; refine ⟨_, rfl, ?_⟩; have HO529 := aM (Kd.R_lower ho0 (below_size bS)); replace HO_3 := aM (Kd.S_elder' (sS HO_3) (Kd.R_base ho0) hb); replace HB := hB hb; (try clear hb ho0); obtain ⟨Ao9, co9, eo9⟩ := Kd.R_slice HO529.out; subst eo9) | ((with_reducible refine gate_builtin (b := .append) (xs := #[.tmp 12, .tmp 15]) rfl ?_); at_builtin; refine Kd.S_append (Kd.slice 3 (Kd.int .i64)) (w0 := w) w.heap.size rfl (.tmp 12) (.tmp 15) 22 54 (.slice none 0 0) 24 rfl Tryz.underlying22 info54 rfl (by decide) (by omega) u3 x3_1 t527 [.slice Ao9 t527.length co9] (fun _ => True) (fun k_ => some k_ = (.slice Ao9 t527.length co9 : Value).ownBlock) rfl rfl ?aP (fun k_ hk_ => ((Kd.R_mono (ok' := fun k_ => ((fun _ => True)) k_ ∧ some k_ ≠ (u3 : Value).ownBlock) (Kd.R_apart' (HO529.out) (Kd.S_typed HO_3.out) (by decide)) (fun k_ hk => ⟨trivial, hk.2⟩))).1 k_ hk_.symm) ?aF ?aO ?aB ?aS ?aL ?_; (case aP => exact Kd.M_row (Kd.R_mono (Kd.R_tight rfl (Kd.R_mono (ok' := fun k_ => ((fun _ => True)) k_ ∧ some k_ ≠ (u3 : Value).ownBlock) (Kd.R_apart' (HO529.out) (Kd.S_typed HO_3.out) (by decide)) (fun k_ hk => ⟨trivial, hk.2⟩))) (fun _ h_ => h_))); (case aB => exact bS); (case aF => exact (fun _ _ => trivial)); (case aO => exact (by exact sT (Kd.S_mono HO_3.out (fun k_ hk => ⟨trivial, fun e_ => hk.2 e_⟩)))); (case aS => exact (below_size bS)); (case aL => have := LMc6.out; omega); intro v531 w8 ho hb hg hat; rw [← Ny530.out] at ho; have HO532 := aM (ho); replace HB := aM (hb); clear HO_3 HO529; clear ho hb hg hat))
    go_roundg k1
    case measure => have := HK1.out; omega
    case rel => exact ⟨(y530), (wrap64 (x8_1 + 1)), fS, H', ⟨by have := HK1.out; omega⟩, ⟨sS HO532⟩, ⟨bS⟩⟩
   ·obtain rfl := Option.some.inj H
    go_wp2
    go_ret
    exact ⟨_, eS, sS HO_3, bS⟩

/-! ### impl_Point: function 132 -/
def impl_Point.f (l0 : List (S151)) : Option ((List (S151))) := (some (([] : List (S151)) : List (S151))).bind fun y533 => (if y533.length + l0.length < 8796093022208 then (some (y533 ++ l0)) else (none))
theorem impl_Point.calls (A0 : Option Addr) (c0 : Nat) (l0 : List (S151)) (r : List (S151)) (w : World) (hr0 : Kd.C k151 w A0 l0.length l0) (hc0 : l0.length ≤ c0) (h : impl_Point.f l0 = some r) :
  Calls Tryz.prog 132 #[.slice A0 l0.length c0] w fun e w' => ∃ v0_ : Value, e = .returned (v0_) ∧ Kd.R k151 151 w' w.heap.size (fun _ => True) v0_ r ∧ Below w.heap.size w w' := by
 obtain _ | A0 := A0
 ·have hl0 : l0 = [] := by
   rcases Nat.eq_zero_or_pos l0.length with h0 | h0
   ·exact List.eq_nil_of_length_eq_zero h0
   ·obtain ⟨ad, e, _⟩ := hr0.2.2 h0
    cases e
  subst hl0
  have hr_ : r = [] := by
   have h_ := h
   simp [impl_Point.f] at h_
   first | exact h_ | exact h_.symm
  subst hr_
  have he_ : ∀ w : World, (binOp .eql 46 (.slice none 0 c0) (.slice none 0 0)).run Tryz.prog w = .ok (.bool true) w := fun _ => rfl
  go_enter Tryz.func132, Tryz.ntmps132
  go_wp2
  go_ret
  exact ⟨_, rfl, Kd.R_nil _ _ _ _ _, Below.refl _ _⟩
 have he_ : ∀ w : World, (binOp .eql 46 (.slice (some A0) l0.length c0) (.slice none 0 0)).run Tryz.prog w = .ok (.bool false) w := fun _ => rfl
 have HR0 := aM hr0
 have HC0 := aM hc0
 clear hr0 hc0
 have HB := aM (Below.refl w.heap.size w)
 have H := h
 clear h
 unfold impl_Point.f at H
 obtain ⟨y533, hy_⟩ : ∃ y_ : List (S151), y_ = (([] : List (S151))) := ⟨_, rfl⟩
 replace H : (if y533.length + l0.length < 8796093022208 then (some (y533 ++ l0)) else (none)) = some r := yS
 have Ny533 := aM hy_
 clear hy_
 by_cases c2 : y533.length + l0.length < 8796093022208
 ·rw [if_pos c2] at H
  have LMc2 := aM c2
  clear c2
  obtain ⟨y536, hy_⟩ : ∃ y_ : List (S151), y_ = (y533 ++ l0) := ⟨_, rfl⟩
  replace H : (some y536) = some r := yS
  have Ny536 := aM hy_
  clear hy_
  obtain rfl := Option.some.inj H
  go_enter Tryz.func132, Tryz.ntmps132
  go_wp2_with (first | ((with_reducible refine gate_dst (N := 5) rfl ?_); refine Kd.R_lit k151 _ 151 ?hg (N := 5) ?hd (xs := ([] : List (S151))) (inner := []) (ok := fun _ => True) (okp := fun _ => True) ?hr ?hp (fun _ hk => hk) trivial (Below.refl _ _) (Nat.le_refl _) (by simp) ?_; (case hd => rfl); (case hg => rfl); (case hr => first | (go_simp; done) | (go_simp; rfl)); (case hp => exact (Reps.none _ _)); intro v534 w3 ho4 hb hg_ hnew_; clear hg_ hnew_; (first | rw [← Ny533.out] at ho4 | (simp only [Int.reduceToNat] at ho4; rw [← Ny533.out] at ho4)); have HO535 := aM (Kd.R_lower ho4 (below_size bS)); replace HB := hB hb; clear hb ho4) | ((with_reducible refine gate_builtin (b := .append) (xs := #[.tmp 5, .tmp 6]) rfl ?_); at_builtin; refine Kd.R_append_rows k151 (w0 := w) w.heap.size rfl (.tmp 5) (.tmp 6) 46 151 (.agg #[(.int .i64 0), (.int .i64 0)]) 16 rfl Tryz.underlying46 info151 rfl (by decide) (by omega) v534 y533 l0 _ _ _ (fun _ => True) (fun _ => False) rfl rfl ?aO ?aR (fun _ _ h => h) (fun _ h => h.elim) ?aF ?aB ?aS ?aL ?_; (case aR => exact cS (Kd.C_below HR0.out HB.out)); (case aB => exact bS); (case aF => exact (fun _ _ => trivial)); (case aO => exact (rS HO535)); (case aS => exact (below_size bS)); (case aL => have := LMc2.out; omega); intro v537 w5 ho hb hg hat; rw [← Ny536.out] at ho; have HO538 := aM (ho); replace HB := aM (hb); clear HO535; clear ho hb hg hat))
  go_ret
  exact ⟨_, eS, rS HO538, bS⟩
 ·rw [if_neg c2] at H
  exact absurd H (by simp)

/-! ### impl_copyObject: function 67 -/
def impl_copyObject.f (l0_0 : List (S151)) (a0_1 : Int) (a0_2 : Int) (a0_3 : Int) (a0_4 : Int) (a0_5 : Int) : Option ((List (S151)) × Int × Int × Int × Int × Int) := (impl_Point.f l0_0).bind fun t541 => (some (t541, a0_1, a0_2, a0_3, a0_4, a0_5))
theorem impl_copyObject.calls (A0_0 : Option Addr) (c0_0 : Nat) (l0_0 : List (S151)) (a0_1 : Int) (a0_2 : Int) (a0_3 : Int) (a0_4 : Int) (a0_5 : Int) (r1 : List (S151)) (r2 : Int) (r3 : Int) (r4 : Int) (r5 : Int) (r6 : Int) (w : World) (hr0_0 : Kd.C k151 w A0_0 l0_0.length l0_0) (hc0_0 : l0_0.length ≤ c0_0) (h : impl_copyObject.f l0_0 a0_1 a0_2 a0_3 a0_4 a0_5 = some (r1, r2, r3, r4, r5, r6)) :
  Calls Tryz.prog 67 #[.agg #[.slice A0_0 l0_0.length c0_0, .int .i64 a0_1, .int .i64 a0_2, .int .i64 a0_3, .int .i64 a0_4, .int .i64 a0_5]] w fun e w' => ∃ v0_ : Value, e = .returned (.agg #[v0_, .int .i64 r2, .int .i64 r3, .int .i64 r4, .int .i64 r5, .int .i64 r6]) ∧ Kd.R k151 151 w' w.heap.size (fun _ => True) v0_ r1 ∧ Below w.heap.size w w' := by
 have hu49 := Tryz.underlying49
 have HR0_0 := aM hr0_0
 have HC0_0 := aM hc0_0
 clear hr0_0 hc0_0
 have HB := aM (Below.refl w.heap.size w)
 have H := h
 clear h
 unfold impl_copyObject.f at H
 replace H := bN H
 obtain ⟨t541, A2, H⟩ := H
 obtain ⟨rfl, rfl, rfl, rfl, rfl, rfl⟩ := sI6 H
 go_enter Tryz.func67, Tryz.ntmps67
 go_wp2_with (first | ((with_reducible refine gD 1 ?_); refine bxE #[.slice A0_0 l0_0.length c0_0, .int .i64 a0_1, .int .i64 a0_2, .int .i64 a0_3, .int .i64 a0_4, .int .i64 a0_5] 49 ?_; intro gb539 hg w3 BK539 hb; have GW539 := gE hg; have GE539 := gE hg; replace HB := hB hb; clear hb hg) | ((with_reducible refine gD 2 ?_); refine bxE #[.slice none 0 0, .int .i64 0, .int .i64 0, .int .i64 0, .int .i64 0, .int .i64 0] 49 ?_; intro gb540 hg w4 BK540 hb; have GW540 := gE hg; have GE540 := gE hg; have NB539_540 := nL_ gb539 hg; have NB540_539 := nG_ gb539 hg; replace BK539 := kB_ gb539 hb; replace HB := hB hb; clear hb hg; have hnb5 := NB539_540.out; have hnc5 := NB540_539.out; have hz6 := cz6 BK539) | ((with_reducible refine gC 132 ?_); refine cM (some 5) Tryz.func132 (impl_Point.calls _ _ l0_0 t541 _ (cC HR0_0 HB) HC0_0.out A2.out) ?_; rintro e w7 ⟨v542, rfl, ho0, hb⟩; refine ⟨_, rfl, ?_⟩; have HO543 := aM (Kd.R_lower ho0 (below_size bS)); replace BK539 := kB_ gb539 hb; replace BK540 := kB_ gb540 hb; replace HB := hB hb; (try clear hb ho0); obtain ⟨Ao8, co8, eo8⟩ := Kd.R_slice HO543.out; subst eo8; have hz9 := cz6 BK539; have hz10 := cz6 BK540))
 refine bodyPost_ret (results_cell_row rfl _ _ gb540 49 #[.slice Ao8 t541.length co8, .int .i64 a0_1, .int .i64 a0_2, .int .i64 a0_3, .int .i64 a0_4, .int .i64 a0_5] (0, 0) _ rfl kS Tryz.underlying49 rfl (by kernel_rfl)) rfl ?_
 exact ⟨_, eS, by exact rT (Kd.R_mono (Kd.R_far (p := ⟨gb540, 5, none⟩) (Kd.R_far (p := ⟨gb540, 4, none⟩) (Kd.R_far (p := ⟨gb540, 3, none⟩) (Kd.R_far (p := ⟨gb540, 2, none⟩) (Kd.R_far (p := ⟨gb540, 1, none⟩) (Kd.R_far (p := ⟨gb540, 0, none⟩) (Kd.R_far (p := ⟨gb539, 0, none⟩) (Kd.R_types (Kd.R_types HO543.out BK539.out (by decide)) BK540.out (by decide)) (fun _ hk => hk.1.2) (.slice Ao8 t541.length co8)) (fun _ hk => hk.2) (.slice Ao8 t541.length co8)) (fun _ hk => hk.2) (.int .i64 a0_1)) (fun _ hk => hk.2) (.int .i64 a0_2)) (fun _ hk => hk.2) (.int .i64 a0_3)) (fun _ hk => hk.2) (.int .i64 a0_4)) (fun _ hk => hk.2) (.int .i64 a0_5)) (fun _ hk => trivial)), bS⟩

/-! ### impl_copyObjects: function 117 -/
def impl_copyObjects.l0 : Nat → List (S49) → List (S49) → Int → Int → Option ((List (S49)))
 | 0, _, _, _, _ => none
 | k + 1, x3, x6, x7, x8 => if x8 < x7 then (if 0 ≤ x8 then (if x8 < (x6.length : Int) then ((impl_copyObject.f ((rd_T49 x6 x8).f0) ((rd_T49 x6 x8).f1) ((rd_T49 x6 x8).f2.f0) ((rd_T49 x6 x8).f2.f1) ((rd_T49 x6 x8).f2.f2) ((rd_T49 x6 x8).f2.f3)).bind fun bt546 => (if x3.length < 2199023255552 then (impl_copyObjects.l0 k (x3 ++ [(⟨bt546.1, bt546.2.1, (⟨bt546.2.2.1, bt546.2.2.2.1, bt546.2.2.2.2.1, bt546.2.2.2.2.2⟩ : S47)⟩ : S49)]) x6 x7 (wrap64 (x8 + 1))) else (none))) else (none)) else (none)) else (some x3)
def impl_copyObjects.f (k : Nat) (l0 : List (S49)) : Option ((List (S49))) := impl_copyObjects.l0 k ([] : List (S49)) l0 (l0.length : Int) 0
theorem impl_copyObjects.calls (k : Nat) (A0 : Option Addr) (c0 : Nat) (l0 : List (S49)) (r : List (S49)) (w : World) (hr0 : Kd.C k49 w A0 l0.length l0) (hc0 : l0.length ≤ c0) (h : impl_copyObjects.f k l0 = some r) :
  Calls Tryz.prog 117 #[.slice A0 l0.length c0] w fun e w' => ∃ v0_ : Value, e = .returned (v0_) ∧ Kd.S k49 49 w' w.heap.size (fun _ => True) v0_ r ∧ Below w.heap.size w w' := by
 have hu49 := Tryz.underlying49
 have HR0 := aM hr0
 have HC0 := aM hc0
 clear hr0 hc0
 have HB := aM (Below.refl w.heap.size w)
 have H := h
 clear h
 unfold impl_copyObjects.f at H
 have H' := aM H
 clear H
 go_enter Tryz.func117, Tryz.ntmps117
 go_wp2
 go_loopg [3, 8] k (fun kq v3 v8 w' => ∃ (x3_1 : List (S49)) (x8_1 : Int), v8 = .int .i64 x8_1 ∧ Aside0 (impl_copyObjects.l0 kq x3_1 l0 (l0.length : Int) x8_1 = some r) ∧ Aside0 (kq ≤ k) ∧ Aside0 (Kd.S k49 49 w' w.heap.size (fun _ => True) v3 x3_1) ∧ Aside0 (Below w.heap.size w w'))
 case atStart => exact ⟨(([] : List (S49))), (0), fS, H', ⟨Nat.le_refl _⟩, ⟨by first | exact Kd.S_nil _ _ _ _ _ | exact Kd.N_nil _ _ _ _ _ | exact Kd.V_nil _ _ _ _ _ | exact Kd.Q_nil _ _ _ _ _ | exact Kd.R_nil _ _ _ _ _⟩, ⟨bS⟩⟩
 case round =>
  clear H'
  try clear c1
  obtain ⟨x3_1, x8_1, rfl, HA, HK1, HO_3, HB⟩ := hrel
  cases gk with
  | zero => exact absurd HA.out (by simp [impl_copyObjects.l0])
  | succ k1 =>
   have H := HA.out
   clear HA
   simp only [impl_copyObjects.l0] at H
   rcases iD H with ⟨c2b0, H⟩ | ⟨c2b0, H⟩
   ·obtain ⟨c3b0, H⟩ := iT H
    obtain ⟨c4b0, H⟩ := iT H
    replace H := bN H
    obtain ⟨⟨t546, t549, t550, t551, t552, t553⟩, A5, H⟩ := H
    obtain ⟨LMc6, H⟩ := iL H
    obtain ⟨y554, hy_⟩ : ∃ y_ : List (S49), y_ = (x3_1 ++ [(⟨t546, t549, (⟨t550, t551, t552, t553⟩ : S47)⟩ : S49)]) := ⟨_, rfl⟩
    replace H : (impl_copyObjects.l0 k1 y554 l0 (l0.length : Int) (wrap64 (x8_1 + 1))) = some r := yS
    have Ny554 := aM hy_
    clear hy_
    have H' := aM H
    clear H
    have p544 : 0 ≤ (x8_1 : Int) := dA
    have q544 : x8_1 < (l0.length : Int) := dA
    obtain ⟨ad544, A544_0, c544_0, e544, hx544_0, hx544_1, hx544_2, hx544_3, hx544_4, hx544_5, hl544_0, hi544_0⟩ := at_T49 HR0.out x8_1 p544 q544
    cases e544
    replace hx544_0 := cB HB hx544_0
    replace hx544_1 := cB HB hx544_1
    replace hx544_2 := cB HB hx544_2
    replace hx544_3 := cB HB hx544_3
    replace hx544_4 := cB HB hx544_4
    replace hx544_5 := cB HB hx544_5
    have HR544_0 := aM hi544_0
    have HC544_0 := aM hl544_0
    clear hi544_0 hl544_0
    replace p544 := eq_true p544
    replace q544 := eq_true q544
    go_wp2_with (first | ((with_reducible refine gD 5 ?_); refine bxE #[.slice none 0 0, .int .i64 0, .int .i64 0, .int .i64 0, .int .i64 0, .int .i64 0] 49 ?_; intro gb545 hg w7 BK545 hb; have GW545 := gE hg; have GE545 := gE hg; replace HO_3 := aM (Kd.S_below (Kd.S_elderB (sS HO_3) gb545 (Nat.le_of_eq hg.symm)) hb); replace HB := hB hb; clear hb hg; have hz8 := cz6 BK545) | ((with_reducible refine gC 67 ?_); refine cM (some 14) Tryz.func67 (impl_copyObject.calls _ _ ((rd_T49 l0 x8_1).f0) ((rd_T49 l0 x8_1).f1) ((rd_T49 l0 x8_1).f2.f0) ((rd_T49 l0 x8_1).f2.f1) ((rd_T49 l0 x8_1).f2.f2) ((rd_T49 l0 x8_1).f2.f3) t546 t549 t550 t551 t552 t553 _ (Kd.C_below HR544_0.out bS) HC544_0.out A5.out) ?_; rintro e w9 ⟨v547, rfl, ho0, hb⟩; refine ⟨_, rfl, ?_⟩; have HO548 := aM (Kd.R_lower ho0 (below_size bS)); replace HO_3 := aM (Kd.S_elder' (by exact sT (Kd.S_mono (Kd.S_far (p := ⟨gb545, 5, none⟩) (Kd.S_far (p := ⟨gb545, 4, none⟩) (Kd.S_far (p := ⟨gb545, 3, none⟩) (Kd.S_far (p := ⟨gb545, 2, none⟩) (Kd.S_far (p := ⟨gb545, 1, none⟩) (Kd.S_far (p := ⟨gb545, 0, none⟩) (Kd.S_mono HO_3.out (fun k_ hk => (⟨hk, hk.2⟩ : _ ∧ k_ ≠ gb545))) (fun _ hk => hk.2) (.slice A544_0 ((rd_T49 l0 x8_1).f0).length c544_0)) (fun _ hk => hk.2) (.int .i64 ((rd_T49 l0 x8_1).f1))) (fun _ hk => hk.2) (.int .i64 ((rd_T49 l0 x8_1).f2.f0))) (fun _ hk => hk.2) (.int .i64 ((rd_T49 l0 x8_1).f2.f1))) (fun _ hk => hk.2) (.int .i64 ((rd_T49 l0 x8_1).f2.f2))) (fun _ hk => hk.2) (.int .i64 ((rd_T49 l0 x8_1).f2.f3))) (fun _ h_ => h_.1))) (Kd.R_base ho0) hb); replace BK545 := kO gb545 #[.slice A544_0 ((rd_T49 l0 x8_1).f0).length c544_0, .int .i64 ((rd_T49 l0 x8_1).f1), .int .i64 ((rd_T49 l0 x8_1).f2.f0), .int .i64 ((rd_T49 l0 x8_1).f2.f1), .int .i64 ((rd_T49 l0 x8_1).f2.f2), .int .i64 ((rd_T49 l0 x8_1).f2.f3)] 49 hb; replace HB := hB hb; (try clear hb hk ho0); obtain ⟨Ao11, co11, eo11⟩ := Kd.R_slice HO548.out; subst eo11) | ((with_reducible refine gate_builtin (b := .append) (xs := #[.tmp 12, .tmp 15]) rfl ?_); at_builtin; refine Kd.S_append k49 (w0 := w) w.heap.size rfl (.tmp 12) (.tmp 15) 28 49 (.agg #[(.slice none 0 0), (.int .i64 0), (.int .i64 0), (.int .i64 0), (.int .i64 0), (.int .i64 0)]) 64 rfl Tryz.underlying28 info49 rfl (by decide) (by omega) u3 x3_1 (⟨t546, t549, (⟨t550, t551, t552, t553⟩ : S47)⟩ : S49) [.slice Ao11 t546.length co11, .int .i64 t549, .int .i64 t550, .int .i64 t551, .int .i64 t552, .int .i64 t553] (fun k_ => k_ ≠ gb545) (fun k_ => some k_ = (.slice Ao11 t546.length co11 : Value).ownBlock) rfl rfl ?aP (fun k_ hk_ => ((Kd.R_mono (ok' := fun k_ => ((fun k_ => k_ ≠ gb545)) k_ ∧ some k_ ≠ (u3 : Value).ownBlock) (Kd.R_types (Kd.R_apart' (HO548.out) (Kd.S_typed HO_3.out) (by decide)) BK545.out (by decide)) (fun k_ hk => ⟨hk.2, hk.1.2⟩))).1 k_ hk_.symm) ?aF ?aO ?aB ?aS ?aL ?_; (case aP => exact k49_mkM _ _ _ (⟨t546, t549, (⟨t550, t551, t552, t553⟩ : S47)⟩ : S49) (Kd.R_mono (Kd.R_tight rfl (Kd.R_mono (ok' := fun k_ => ((fun k_ => k_ ≠ gb545)) k_ ∧ some k_ ≠ (u3 : Value).ownBlock) (Kd.R_types (Kd.R_apart' (HO548.out) (Kd.S_typed HO_3.out) (by decide)) BK545.out (by decide)) (fun k_ hk => ⟨hk.2, hk.1.2⟩))) (fun _ h_ => h_))); (case aB => exact bS); (case aF => exact (fun k_ hk => Kd.freshB (g := gb545) kS k_ hk)); (case aO => exact (by exact sT (Kd.S_mono HO_3.out (fun k_ hk => ⟨hk.1.2, fun e_ => hk.2 e_⟩)))); (case aS => exact (below_size bS)); (case aL => have := LMc6.out; omega); intro v555 w10 ho hb hg hat; rw [← Ny554.out] at ho; have HO556 := aM (ho); replace BK545 := aM (blk_grown (g := gb545) kS hg (Kd.S_away HO_3.out (fun _ hk => hk.1.2))); replace HB := aM (hb); clear HO_3 HO548; clear ho hb hg hat))
    go_roundg k1
    case measure => have := HK1.out; omega
    case rel => exact ⟨(y554), (wrap64 (x8_1 + 1)), fS, H', ⟨by have := HK1.out; omega⟩, ⟨by exact sT (Kd.S_mono HO556.out (fun _ hk => trivial))⟩, ⟨bS⟩⟩
   ·obtain rfl := Option.some.inj H
    go_wp2
    go_ret
    exact ⟨_, eS, sS HO_3, bS⟩

/-! ### impl_copyBand: function 54 -/
def impl_copyBand.f (k : Nat) (a0_0 : Int) (a0_1 : Int) (l0_2 : List (List Int)) (l0_3 : List (S49)) : Option (Int × Int × (List (List Int)) × (List (S49))) := (impl_copyRows.f k l0_2).bind fun t559 => ((impl_copyObjects.f k l0_3).bind fun t562 => (some (a0_0, a0_1, t559, t562)))
def impl_copyBand.T1 : Bool × List (List Nat × List Nat) := (true, [([], []), ([0], [0]), ([1], [1]), ([], []), ([3], [3]), ([4, 2], [4]), ([0, 1, 2, 3, 4], []), ([6, 2, 5, 0, 1, 2, 3, 4], [2, 6]), ([0, 1, 2, 3, 4, 5, 6, 7], []), ([8, 5, 7, 0, 1, 2, 3, 4, 5, 6, 7], [5, 8])])
def impl_copyBand.B1 : List Nat := [0, 1, 3, 0, 8, 31, 31, 127, 255, 511]
theorem impl_copyBand.tab1 : rtab .any (opsOf Tryz.f54 1) = impl_copyBand.T1 := by kernel_rfl
theorem impl_copyBand.bits1 : waitsOk impl_copyBand.T1.2 impl_copyBand.B1 = true := by kernel_rfl
theorem impl_copyBand.calls (k : Nat) (a0_0 : Int) (a0_1 : Int) (A0_2 : Option Addr) (c0_2 : Nat) (l0_2 : List (List Int)) (A0_3 : Option Addr) (c0_3 : Nat) (l0_3 : List (S49)) (r1 : Int) (r2 : Int) (r3 : List (List Int)) (r4 : List (S49)) (w : World) (hr0_2 : Kd.C (Kd.slice 3 (Kd.int .i64)) w A0_2 l0_2.length l0_2) (hc0_2 : l0_2.length ≤ c0_2) (hr0_3 : Kd.C k49 w A0_3 l0_3.length l0_3) (hc0_3 : l0_3.length ≤ c0_3) (h : impl_copyBand.f k a0_0 a0_1 l0_2 l0_3 = some (r1, r2, r3, r4)) :
  Calls Tryz.prog 54 #[.agg #[.int .i64 a0_0, .int .i64 a0_1, .slice A0_2 l0_2.length c0_2, .slice A0_3 l0_3.length c0_3]] w fun e w' => ∃ v2_ v3_ : Value, e = .returned (.agg #[.int .i64 r1, .int .i64 r2, v2_, v3_]) ∧ Kd.S (Kd.slice 3 (Kd.int .i64)) 54 w' w.heap.size (fun _ => True) v2_ r3 ∧ Kd.S k49 49 w' w.heap.size (fun _ => True) v3_ r4 ∧ Below w.heap.size w w' := by
 have hu30 := Tryz.underlying30
 have HR0_2 := aM hr0_2
 have HC0_2 := aM hc0_2
 clear hr0_2 hc0_2
 have HR0_3 := aM hr0_3
 have HC0_3 := aM hc0_3
 clear hr0_3 hc0_3
 have HB := aM (Below.refl w.heap.size w)
 have H := h
 clear h
 unfold impl_copyBand.f at H
 replace H := bN H
 obtain ⟨t559, A2, H⟩ := H
 replace H := bN H
 obtain ⟨t562, A3, H⟩ := H
 obtain ⟨rfl, rfl, rfl, rfl⟩ := sI4 H
 go_enter Tryz.func54, Tryz.ntmps54
 try go_wp2_with (first | ((with_reducible refine gD 1 ?_); refine bxE #[.int .i64 a0_0, .int .i64 a0_1, .slice A0_2 l0_2.length c0_2, .slice A0_3 l0_3.length c0_3] 30 ?_; intro gb557 hg w4 BK557 hb; have GW557 := gE hg; have GE557 := gE hg; replace HB := hB hb; clear hb hg) | ((with_reducible refine gD 2 ?_); refine bxE #[.int .i64 0, .int .i64 0, .slice none 0 0, .slice none 0 0] 30 ?_; intro gb558 hg w5 BK558 hb; have GW558 := gE hg; have GE558 := gE hg; have NB557_558 := nL_ gb557 hg; have NB558_557 := nG_ gb557 hg; replace BK557 := kB_ gb557 hb; replace HB := hB hb; clear hb hg))
 replace BK557 := aM (blk_drew BK557.out)
 replace BK558 := aM (blk_drew BK558.out)
 replace HB := aM (below_drew1 HB.out)
 refine start_ (n := 10) (S := fun w' => w'.cell? ⟨gb557, 0, none⟩ = some (.int .i64 a0_0) ∧ w'.cell? ⟨gb557, 1, none⟩ = some (.int .i64 a0_1) ∧ w'.cell? ⟨gb557, 2, none⟩ = some (.slice A0_2 l0_2.length c0_2) ∧ w'.cell? ⟨gb557, 3, none⟩ = some (.slice A0_3 l0_3.length c0_3)) (ds := [7, 9]) (mB 10 0) (by kernel_rfl) rfl rfl (cy4 BK557) (fun hHeld => ?_); refine with_tabW impl_copyBand.tab1 impl_copyBand.bits1 (fun HT_ HW_ => ?_)
 generalize w5.drew = w6 at BK557 BK558 HB hHeld ⊢
 refine pU 0 (some 3) (mB 10 1) ?_
 refine pU 3 (some 6) (mB 10 9) ?_
 refine tK 1 (some 4) (mB 10 11) ?_
 refine tK 4 (some 7) (mB 10 27) ?_
 refine one_ (i := 2) (N := some 5) (mB 10 31) rfl rfl (one_of HT_.out (by kernel_rfl)) (by decide) (fun K hK => ?_)
 refine goes_ Tryz.func116 (by kernel_rfl) rfl #[.slice A0_2 l0_2.length c0_2] (by rfl) rfl rfl mA ?_
 with_reducible refine (impl_copyRows.calls k _ _ l0_2 t559 _ ?side1 ?side2 A2.out).mono ?_
 (case side1 => exact cS (Kd.C_below HR0_2.out HB.out))
 (case side2 => exact HC0_2.out)
 rintro e w7 ⟨v560, rfl, ho0, hb⟩
 refine ⟨_, rfl, ?_⟩
 have HO561 := aM (Kd.S_lower ho0 (below_size bS))
 replace BK557 := kB_ gb557 hb
 replace BK558 := kB_ gb558 hb
 replace HB := hB hb
 (try clear hb)
 (try clear hb2)
 (try clear hk)
 (try clear hi)
 (try clear ho0)
 refine hK.out _ _ (cy4 BK557) (fun hHeld => ?_)
 clear hK K
 refine norm_ (a' := ?_) ?_ ?_
 rotate_left
 ·show Act.put _ (some 5) _ = _
  simp only [Act.put, List.setIfInBounds_toArray, List.set_cons_zero, List.set_cons_succ, i64_w, i32_w]
  rfl
 refine pU 6 (some 9) (mB 10 95) ?_
 refine one_ (i := 5) (N := some 8) (mB 10 127) rfl rfl (one_of HT_.out (by kernel_rfl)) (by decide) (fun K hK => ?_)
 refine goes_ Tryz.func117 (by kernel_rfl) rfl #[.slice A0_3 l0_3.length c0_3] (by rfl) rfl rfl mA ?_
 with_reducible refine (impl_copyObjects.calls k _ _ l0_3 t562 _ ?side1 ?side2 A3.out).mono ?_
 (case side1 => exact cS (Kd.C_below HR0_3.out HB.out))
 (case side2 => exact HC0_3.out)
 rintro e w8 ⟨v563, rfl, ho0, hb⟩
 refine ⟨_, rfl, ?_⟩
 have HO564 := aM (Kd.S_lower ho0 (below_size bS))
 replace HO561 := sB HO561 hb
 replace BK557 := kB_ gb557 hb
 replace BK558 := kB_ gb558 hb
 replace HB := hB hb
 (try clear hb)
 (try clear hb2)
 (try clear hk)
 (try clear hi)
 (try clear ho0)
 obtain ⟨Ao9, co9, eo9⟩ := Kd.S_slice HO561.out
 (first | subst eo9 | obtain ⟨rfl, rfl⟩ := slE eo9)
 obtain ⟨Ao11, co11, eo11⟩ := Kd.S_slice HO564.out
 (first | subst eo11 | obtain ⟨rfl, rfl⟩ := slE eo11)
 refine hK.out _ _ (cy4 BK557) (fun hHeld => ?_)
 clear hK K
 refine norm_ (a' := ?_) ?_ ?_
 rotate_left
 ·show Act.put _ (some 8) _ = _
  simp only [Act.put, List.setIfInBounds_toArray, List.set_cons_zero, List.set_cons_succ, i64_w, i32_w]
  rfl
 refine last_ (i := 7) (N := none) (mB 10 255) rfl rfl (one_of HT_.out (by kernel_rfl)) (by decide) (fun K hK => ?_)
 have hs10 := cg2 BK557
 have hfs10 := blk_frozen BK557.out 2
 have hns10_1 := NB558_557.out
 have hms10_1 := NB557_558.out
 refine skip_ (w1 := ?_) (by rfl) rfl ?_ ?_
 rotate_left
 ·go_simp
  rfl
 refine hK.out _ _ ?_
 clear hK K
 refine pU 8 (some 10) (mB 10 511) ?_
 refine last_ (i := 9) (N := none) (mB 10 1023) rfl rfl (one_of HT_.out (by kernel_rfl)) (by decide) (fun K hK => ?_)
 have hs12 := cg3 BK557
 have hfs12 := blk_frozen BK557.out 3
 have hns12_1 := NB558_557.out
 have hms12_1 := NB557_558.out
 refine skip_ (w1 := ?_) (by rfl) rfl ?_ ?_
 rotate_left
 ·go_simp
  rfl
 refine hK.out _ _ ?_
 clear hK K
 refine done_ (done_of HT_.out (by kernel_rfl)) ?_
 have hnb13 := NB557_558.out
 have hnc13 := NB558_557.out
 have hz14 := cz4 BK557
 have hz15 := cz4 BK558
 try go_wp2
 refine bodyPost_ret (results_cell_row rfl _ _ gb558 30 #[.int .i64 a0_0, .int .i64 a0_1, .slice Ao9 t559.length co9, .slice Ao11 t562.length co11] (0, 0) _ rfl kS Tryz.underlying30 rfl (by kernel_rfl)) rfl ?_
 exact ⟨_, _, eS, by exact sT (Kd.S_mono (Kd.S_far (p := ⟨gb558, 3, none⟩) (Kd.S_far (p := ⟨gb558, 2, none⟩) (Kd.S_far (p := ⟨gb558, 1, none⟩) (Kd.S_far (p := ⟨gb558, 0, none⟩) (Kd.S_far (p := ⟨gb557, 3, none⟩) (Kd.S_far (p := ⟨gb557, 2, none⟩) (Kd.S_types (Kd.S_types HO561.out BK557.out (by decide)) BK558.out (by decide)) (fun _ hk => hk.1.2) (.slice Ao9 t559.length co9)) (fun _ hk => hk.1.2) (.slice Ao11 t562.length co11)) (fun _ hk => hk.2) (.int .i64 a0_0)) (fun _ hk => hk.2) (.int .i64 a0_1)) (fun _ hk => hk.2) (.slice Ao9 t559.length co9)) (fun _ hk => hk.2) (.slice Ao11 t562.length co11)) (fun _ hk => trivial)), by exact sT (Kd.S_mono (Kd.S_far (p := ⟨gb558, 3, none⟩) (Kd.S_far (p := ⟨gb558, 2, none⟩) (Kd.S_far (p := ⟨gb558, 1, none⟩) (Kd.S_far (p := ⟨gb558, 0, none⟩) (Kd.S_far (p := ⟨gb557, 3, none⟩) (Kd.S_far (p := ⟨gb557, 2, none⟩) (Kd.S_types (Kd.S_types HO564.out BK557.out (by decide)) BK558.out (by decide)) (fun _ hk => hk.1.2) (.slice Ao9 t559.length co9)) (fun _ hk => hk.1.2) (.slice Ao11 t562.length co11)) (fun _ hk => hk.2) (.int .i64 a0_0)) (fun _ hk => hk.2) (.int .i64 a0_1)) (fun _ hk => hk.2) (.slice Ao9 t559.length co9)) (fun _ hk => hk.2) (.slice Ao11 t562.length co11)) (fun _ hk => trivial)), bS⟩

end Go.Proofs.YtncfipboidmfbaaGreat.QFnExactAddToBand
