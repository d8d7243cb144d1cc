-- Made out of the translation by a program of this session (a changed copy of the print). Not trusted: Lean checks it.
import Derived.Test.YtigodjcnkgebaaaQFnMergesx0
import Derived.Test.YtigodjcnkgebaaaQFnMergesx1
import Derived.Test.YtigodjcnkgebaaaQFnMergesx2
import Derived.Test.YtigodjcnkgebaaaQFnMergesx14
import Derived.Test.YtigodjcnkgebaaaQFnMergesx19
namespace Go.Proofs.Ytigodjcnkgebaaa.QFnMerges
open Go.RowKit Go.Proofs.YtigodjcnkgebaaaW.PrintWords Go.Proofs.YtigodjcnkgebaaaW.PrintLast Go.Proofs.YtigodjcnkgebaaaW.PrintMore
attribute [local go_sem] max2_int min2_int max_two min_two max_three min_three max_four min_four   -- for this text's walks alone
set_option linter.unusedVariables false
set_option linter.unusedSimpArgs false
set_option maxHeartbeats 8000000
set_option maxRecDepth 100000

/-! ### laws_FnMerges: function 12 -/
def laws_FnMerges.f (k : Nat) (l0 : List Int) : Option (Bool) := (laws_big.f l0).bind fun t773 => (if t773 = true then (some true) else ((spec_DrawBand.f k l0).bind fun bt774 => ((impl_MergeBand.f k bt774.1 bt774.2.1 bt774.2.2.1 bt774.2.2.2).bind fun bt783 => ((impl_BandOk.f k bt774.1 bt774.2.1 bt774.2.2.1 bt774.2.2.2).bind fun t792 => (if t792 = true then ((impl_BandOk.f k bt783.1 bt783.2.1 bt783.2.2.1 bt783.2.2.2).bind fun t793 => (if t793 = true then (if (bt783.2.2.2.length : Int) = 0 then ((impl_BandCells.f k bt783.1 bt783.2.1 bt783.2.2.1 bt783.2.2.2).bind fun t794 => (if t794 = 0 then ((impl_RowsOfBand.f k bt774.1 bt774.2.1 bt774.2.2.1 bt774.2.2.2).bind fun t795 => ((impl_RowsOfBand.f k bt783.1 bt783.2.1 bt783.2.2.1 bt783.2.2.2).bind fun t798 => ((impl_SameRows.f k t795 t798).bind fun t801 => (if t801 = true then ((impl_RowsOfBand.f k bt783.1 bt783.2.1 bt783.2.2.1 bt783.2.2.2).bind fun t802 => ((impl_SameRows.f k t802 bt783.2.2.1).bind fun t805 => (some t805))) else (some false))))) else (some false))) else (some false)) else (some false))) else (some false))))))
def laws_FnMerges.T5 : Bool × List (List Nat × List Nat) := (true, [([], []), ([0], [0]), ([1, 1], [1]), ([2], [2]), ([3, 2, 2], [2, 3]), ([2, 4], [2, 4]), ([5, 4], [5]), ([6], [6]), ([7, 6], [6, 7]), ([8, 6], [6, 8]), ([9, 6], [6, 9]), ([6, 10], [6, 10]), ([11, 6], [11]), ([12], [12]), ([13, 12, 12], [12, 13]), ([14, 12], [12, 14]), ([12, 15], [12, 15]), ([16, 14], [16]), ([17], [17]), ([18, 17, 17], [17, 18]), ([17], [17]), ([20, 19, 17], [17, 20]), ([19, 21, 21, 17], [17, 19, 21]), ([17, 22], [17, 22]), ([23, 22], [23]), ([24], [24]), ([25, 24, 24], [24, 25]), ([24], [24]), ([27, 24], [24, 27]), ([26, 28, 26, 24], [24, 26, 28]), ([24, 29], [24, 29]), ([30, 29, 0, 1, 2, 3, 4, 5, 6, 7, 8, 9, 10, 11, 12, 13, 14, 15, 16, 17, 18, 19, 20, 21, 22, 23, 24, 25, 26, 27, 28, 29, 30], [30])])
def laws_FnMerges.B5 : List Nat := [0, 1, 3, 7, 15, 31, 63, 127, 255, 511, 1023, 2047, 4095, 8191, 16383, 32767, 65535, 131071, 262143, 524287, 262143, 2097151, 4194303, 8388607, 16777215, 33554431, 67108863, 33554431, 167772159, 536870911, 1073741823, 2147483647]
theorem laws_FnMerges.tab5 : rtab .any (opsOf Try.f12 5) = laws_FnMerges.T5 := by kernel_rfl
theorem laws_FnMerges.bits5 : waitsOk laws_FnMerges.T5.2 laws_FnMerges.B5 = true := by kernel_rfl
theorem laws_FnMerges.calls (k : Nat) (A0 : Option Addr) (c0 : Nat) (l0 : List Int) (r : Bool) (w : World) (hr0 : Kd.C (Kd.int .u8) w A0 l0.length l0) (hc0 : l0.length ≤ c0) (h : laws_FnMerges.f k l0 = some r) (hT : r = true) :
  Calls Try.prog 12 #[.slice A0 l0.length c0] w fun e w' => e = .returned (.bool r) ∧ Below w.heap.size w w' := by
 have hu58 := Try.underlying58
 have HR0 := Aside0.mk hr0
 have HC0 := Aside0.mk hc0
 clear hr0 hc0
 have HB := Aside0.mk (Below.refl w.heap.size w)
 have H : ((laws_big.f l0).bind fun t773 => (if t773 = true then (some true) else ((spec_DrawBand.f k l0).bind fun bt774 => ((impl_MergeBand.f k bt774.1 bt774.2.1 bt774.2.2.1 bt774.2.2.2).bind fun bt783 => ((impl_BandOk.f k bt774.1 bt774.2.1 bt774.2.2.1 bt774.2.2.2).bind fun t792 => (if t792 = true then ((impl_BandOk.f k bt783.1 bt783.2.1 bt783.2.2.1 bt783.2.2.2).bind fun t793 => (if t793 = true then (if (bt783.2.2.2.length : Int) = 0 then ((impl_BandCells.f k bt783.1 bt783.2.1 bt783.2.2.1 bt783.2.2.2).bind fun t794 => (if t794 = 0 then ((impl_RowsOfBand.f k bt774.1 bt774.2.1 bt774.2.2.1 bt774.2.2.2).bind fun t795 => ((impl_RowsOfBand.f k bt783.1 bt783.2.1 bt783.2.2.1 bt783.2.2.2).bind fun t798 => ((impl_SameRows.f k t795 t798).bind fun t801 => (if t801 = true then ((impl_RowsOfBand.f k bt783.1 bt783.2.1 bt783.2.2.1 bt783.2.2.2).bind fun t802 => ((impl_SameRows.f k t802 bt783.2.2.1).bind fun t805 => (some t805))) else (some false))))) else (some false))) else (some false)) else (some false))) else (some false))))))) = some r := h
 clear h
 replace H := bN H
 obtain ⟨t773, A2, H⟩ := H
 by_cases c3 : t773 = true
 ·subst c3
  rw [if_pos rfl] at H
  obtain rfl := Option.some.inj H
  (try clear hT)
  go_enter Try.func12, Try.ntmps12
  go_wp2_with (first | ((with_reducible refine gC 15 ?_); refine cL (some 6) Try.func15 #[.slice A0 l0.length c0] ?_; (with_reducible refine (laws_big.calls _ _ l0 _ _ ?side1 ?side2 A2.out).mono ?_); (case side1 => repeat (first | exact HR0.out | (with_reducible refine Kd.C_alloc ?_ _) | (with_reducible refine Kd.C_drewN ?_ _) | (with_reducible refine Kd.C_drew ?_))); (case side2 => exact HC0.out); rintro e w' ⟨rfl, ⟨nd, rfl⟩⟩; refine ⟨_, rfl, ?_⟩))
  go_ret
  exact ⟨eS, bS⟩
 ·obtain rfl := Bool.eq_false_iff.mpr c3
  rw [if_neg nF] at H
  replace H := bN H
  obtain ⟨⟨t774, t775, t776, t779⟩, A4, H⟩ := H
  replace H := bN H
  obtain ⟨⟨t783, t784, t785, t788⟩, A5, H⟩ := H
  replace H := bN H
  obtain ⟨t792, A6, H⟩ := H
  by_cases c7 : t792 = true
  ·subst c7
   rw [if_pos rfl] at H
   replace H := bN H
   obtain ⟨t793, A8, H⟩ := H
   by_cases c9 : t793 = true
   ·subst c9
    rw [if_pos rfl] at H
    by_cases c10 : (t788.length : Int) = 0
    ·rw [if_pos c10] at H
     have c10b0 : ((t788.length : Int) == 0) = true := beq_iff_eq.mpr c10
     have c10b1 : ((t788.length : Int) != 0) = false := bne_eq_false_iff_eq.mpr c10
     clear c10
     replace H := bN H
     obtain ⟨t794, A11, H⟩ := H
     by_cases c12 : t794 = 0
     ·rw [if_pos c12] at H
      have c12b0 : (t794 == 0) = true := beq_iff_eq.mpr c12
      have c12b1 : (t794 != 0) = false := bne_eq_false_iff_eq.mpr c12
      clear c12
      replace H := bN H
      obtain ⟨t795, A13, H⟩ := H
      replace H := bN H
      obtain ⟨t798, A14, H⟩ := H
      replace H := bN H
      obtain ⟨t801, A15, H⟩ := H
      by_cases c16 : t801 = true
      ·subst c16
       rw [if_pos rfl] at H
       replace H := bN H
       obtain ⟨t802, A17, H⟩ := H
       replace H := bN H
       obtain ⟨t805, A18, H⟩ := H
       obtain rfl := Option.some.inj H
       (try clear hT)
       go_enter Try.func12, Try.ntmps12
       try go_wp2_with (first | ((with_reducible refine gC 15 ?_); refine cL (some 6) Try.func15 #[.slice A0 l0.length c0] ?_; (with_reducible refine (laws_big.calls _ _ l0 _ _ ?side1 ?side2 A2.out).mono ?_); (case side1 => repeat (first | exact HR0.out | (with_reducible refine Kd.C_alloc ?_ _) | (with_reducible refine Kd.C_drewN ?_ _) | (with_reducible refine Kd.C_drew ?_))); (case side2 => exact HC0.out); rintro e w' ⟨rfl, ⟨nd, rfl⟩⟩; refine ⟨_, rfl, ?_⟩) | ((with_reducible refine gC 61 ?_); refine cL (some 8) Try.func61 #[.slice A0 l0.length c0] ?_; (with_reducible refine (spec_DrawBand.calls k _ _ l0 t774 t775 t776 t779 _ ?side1 ?side2 A4.out).mono ?_); (case side1 => repeat (first | exact HR0.out | (with_reducible refine Kd.C_alloc ?_ _) | (with_reducible refine Kd.C_drewN ?_ _) | (with_reducible refine Kd.C_drew ?_))); (case side2 => exact HC0.out); rintro e w19 ⟨v777, v780, rfl, ho0, ho1, hb⟩; refine ⟨_, rfl, ?_⟩; have HO778 := Aside0.mk (Kd.S_lower ho0 (below_size bS)); have HO781 := Aside0.mk (Kd.S_lower ho1 (below_size bS)); replace HB := hB hb; (try clear hb); (try clear hb2); (try clear hk); (try clear hi); (try clear ho0); (try clear ho1)) | ((with_reducible refine gD 3 ?_); refine bxE #[.int .i64 0, .int .i64 0, .slice none 0 0, .slice none 0 0] 58 ?_; intro gb782 hg w20 BK782 hb; have GW782 := gE hg; have GE782 := gE hg; replace HO778 := sB HO778 hb; replace HO781 := sB HO781 hb; replace HB := hB hb; clear hb hg; have hz21 := cz4 BK782; obtain ⟨Ao22, co22, eo22⟩ := Kd.S_slice HO778.out; subst eo22; obtain ⟨Ao23, co23, eo23⟩ := Kd.S_slice HO781.out; subst eo23) | ((with_reducible refine gC 62 ?_); refine cL (some 10) Try.func62 #[.agg #[.int .i64 t774, .int .i64 t775, .slice Ao22 t776.length co22, .slice Ao23 t779.length co23]] ?_; (with_reducible refine (impl_MergeBand.calls k t774 t775 _ _ t776 _ _ t779 t783 t784 t785 t788 _ ?side1 ?side2 ?side3 ?side4 A5.out).mono ?_); (case side1 => refine (Kd.S_reads' (e := 71) (base := w.heap.size) (ok := fun k_ => True) (n := t776.length) (c := co22) ?_).2.2; exact (by exact sT (Kd.S_mono (Kd.S_far (p := ⟨gb782, 3, none⟩) (Kd.S_far (p := ⟨gb782, 2, none⟩) (Kd.S_far (p := ⟨gb782, 1, none⟩) (Kd.S_far (p := ⟨gb782, 0, none⟩) (Kd.S_types HO778.out BK782.out (by decide)) (fun _ hk => hk.2) (.int .i64 t774)) (fun _ hk => hk.2) (.int .i64 t775)) (fun _ hk => hk.2) (.slice Ao22 t776.length co22)) (fun _ hk => hk.2) (.slice Ao23 t779.length co23)) (fun _ h_ => h_.1)))); (case side2 => exact (Kd.S_reads' HO778.out).2.1); (case side3 => refine (Kd.S_reads' (e := 45) (base := w.heap.size) (ok := fun k_ => True) (n := t779.length) (c := co23) ?_).2.2; exact (by exact sT (Kd.S_mono (Kd.S_far (p := ⟨gb782, 3, none⟩) (Kd.S_far (p := ⟨gb782, 2, none⟩) (Kd.S_far (p := ⟨gb782, 1, none⟩) (Kd.S_far (p := ⟨gb782, 0, none⟩) (Kd.S_types HO781.out BK782.out (by decide)) (fun _ hk => hk.2) (.int .i64 t774)) (fun _ hk => hk.2) (.int .i64 t775)) (fun _ hk => hk.2) (.slice Ao22 t776.length co22)) (fun _ hk => hk.2) (.slice Ao23 t779.length co23)) (fun _ h_ => h_.1)))); (case side4 => exact (Kd.S_reads' HO781.out).2.1); rintro e w24 ⟨v786, v789, rfl, ho0, ho1, hb⟩; refine ⟨_, rfl, ?_⟩; have HO787 := Aside0.mk (Kd.S_lower (Kd.S_new' ho0 (Kd.S_lt (by exact sT (Kd.S_mono (Kd.S_far (p := ⟨gb782, 3, none⟩) (Kd.S_far (p := ⟨gb782, 2, none⟩) (Kd.S_far (p := ⟨gb782, 1, none⟩) (Kd.S_far (p := ⟨gb782, 0, none⟩) (Kd.S_types HO778.out BK782.out (by decide)) (fun _ hk => hk.2) (.int .i64 t774)) (fun _ hk => hk.2) (.int .i64 t775)) (fun _ hk => hk.2) (.slice Ao22 t776.length co22)) (fun _ hk => hk.2) (.slice Ao23 t779.length co23)) (fun _ h_ => h_.1))))) (below_size bS)); have HO790 := Aside0.mk (Kd.S_lower (Kd.S_new' ho1 (Kd.S_lt (by exact sT (Kd.S_mono (Kd.S_far (p := ⟨gb782, 3, none⟩) (Kd.S_far (p := ⟨gb782, 2, none⟩) (Kd.S_far (p := ⟨gb782, 1, none⟩) (Kd.S_far (p := ⟨gb782, 0, none⟩) (Kd.S_types HO781.out BK782.out (by decide)) (fun _ hk => hk.2) (.int .i64 t774)) (fun _ hk => hk.2) (.int .i64 t775)) (fun _ hk => hk.2) (.slice Ao22 t776.length co22)) (fun _ hk => hk.2) (.slice Ao23 t779.length co23)) (fun _ h_ => h_.1))))) (below_size bS)); replace HO778 := Aside0.mk (Kd.S_elder' (by exact sT (Kd.S_mono (Kd.S_far (p := ⟨gb782, 3, none⟩) (Kd.S_far (p := ⟨gb782, 2, none⟩) (Kd.S_far (p := ⟨gb782, 1, none⟩) (Kd.S_far (p := ⟨gb782, 0, none⟩) (Kd.S_types HO778.out BK782.out (by decide)) (fun _ hk => hk.2) (.int .i64 t774)) (fun _ hk => hk.2) (.int .i64 t775)) (fun _ hk => hk.2) (.slice Ao22 t776.length co22)) (fun _ hk => hk.2) (.slice Ao23 t779.length co23)) (fun _ h_ => h_.1))) (Kd.S_base ho0) hb); replace HO781 := Aside0.mk (Kd.S_elder' (by exact sT (Kd.S_mono (Kd.S_far (p := ⟨gb782, 3, none⟩) (Kd.S_far (p := ⟨gb782, 2, none⟩) (Kd.S_far (p := ⟨gb782, 1, none⟩) (Kd.S_far (p := ⟨gb782, 0, none⟩) (Kd.S_types HO781.out BK782.out (by decide)) (fun _ hk => hk.2) (.int .i64 t774)) (fun _ hk => hk.2) (.int .i64 t775)) (fun _ hk => hk.2) (.slice Ao22 t776.length co22)) (fun _ hk => hk.2) (.slice Ao23 t779.length co23)) (fun _ h_ => h_.1))) (Kd.S_base ho1) hb); replace BK782 := Aside0.mk (blk_below (g := gb782) (o := .cells #[.int .i64 t774, .int .i64 t775, .slice Ao22 t776.length co22, .slice Ao23 t779.length co23] 58 (0, 0)) kS hb); replace HB := hB hb; (try clear hb); (try clear hb2); (try clear hk); (try clear hi); (try clear ho0); (try clear ho1)) | ((with_reducible refine gD 4 ?_); refine bxE #[.int .i64 0, .int .i64 0, .slice none 0 0, .slice none 0 0] 58 ?_; intro gb791 hg w25 BK791 hb; have GW791 := gE hg; have GE791 := gE hg; have NB782_791 := nL (g := gb782) hg; have NB791_782 := nG (g := gb782) hg; replace HO778 := sB HO778 hb; replace HO781 := sB HO781 hb; replace HO787 := sB HO787 hb; replace HO790 := sB HO790 hb; replace BK782 := kB (g := gb782) hb; replace HB := hB hb; clear hb hg; have hnb26 := NB791_782.out; have hnc26 := NB782_791.out; have hz27 := cz4 BK791; obtain ⟨Ao28, co28, eo28⟩ := Kd.S_slice HO787.out; subst eo28; obtain ⟨Ao29, co29, eo29⟩ := Kd.S_slice HO790.out; subst eo29))
       have n0_ : Aside0 (Kd.S (Kd.slice 3 (Kd.int .i64)) 71 ((((w25.setCell ⟨gb791, 0, none⟩ (.int .i64 t783)).setCell ⟨gb791, 1, none⟩ (.int .i64 t784)).setCell ⟨gb791, 2, none⟩ (.slice Ao28 t785.length co28)).setCell ⟨gb791, 3, none⟩ (.slice Ao29 t788.length co29)) w.heap.size (fun k_ => some k_ ≠ (.slice Ao28 t785.length co28 : Value).ownBlock) (.slice Ao22 t776.length co22) t776) := ⟨by exact sT (Kd.S_mono (Kd.S_far (p := ⟨gb791, 3, none⟩) (Kd.S_far (p := ⟨gb791, 2, none⟩) (Kd.S_far (p := ⟨gb791, 1, none⟩) (Kd.S_far (p := ⟨gb791, 0, none⟩) (Kd.S_types HO778.out BK791.out (by decide)) (fun _ hk => hk.2) (.int .i64 t783)) (fun _ hk => hk.2) (.int .i64 t784)) (fun _ hk => hk.2) (.slice Ao28 t785.length co28)) (fun _ hk => hk.2) (.slice Ao29 t788.length co29)) (fun _ hk => hk.1.2))⟩
       have n1_ : Aside0 (Kd.S k45 45 ((((w25.setCell ⟨gb791, 0, none⟩ (.int .i64 t783)).setCell ⟨gb791, 1, none⟩ (.int .i64 t784)).setCell ⟨gb791, 2, none⟩ (.slice Ao28 t785.length co28)).setCell ⟨gb791, 3, none⟩ (.slice Ao29 t788.length co29)) w.heap.size (fun k_ => some k_ ≠ (.slice Ao29 t788.length co29 : Value).ownBlock) (.slice Ao23 t779.length co23) t779) := ⟨by exact sT (Kd.S_mono (Kd.S_far (p := ⟨gb791, 3, none⟩) (Kd.S_far (p := ⟨gb791, 2, none⟩) (Kd.S_far (p := ⟨gb791, 1, none⟩) (Kd.S_far (p := ⟨gb791, 0, none⟩) (Kd.S_types HO781.out BK791.out (by decide)) (fun _ hk => hk.2) (.int .i64 t783)) (fun _ hk => hk.2) (.int .i64 t784)) (fun _ hk => hk.2) (.slice Ao28 t785.length co28)) (fun _ hk => hk.2) (.slice Ao29 t788.length co29)) (fun _ hk => hk.1.2))⟩
       have n2_ : Aside0 (Kd.S (Kd.slice 3 (Kd.int .i64)) 71 ((((w25.setCell ⟨gb791, 0, none⟩ (.int .i64 t783)).setCell ⟨gb791, 1, none⟩ (.int .i64 t784)).setCell ⟨gb791, 2, none⟩ (.slice Ao28 t785.length co28)).setCell ⟨gb791, 3, none⟩ (.slice Ao29 t788.length co29)) w.heap.size (fun k_ => some k_ ≠ (.slice Ao22 t776.length co22 : Value).ownBlock) (.slice Ao28 t785.length co28) t785) := ⟨by exact sT (Kd.S_mono (Kd.S_far (p := ⟨gb791, 3, none⟩) (Kd.S_far (p := ⟨gb791, 2, none⟩) (Kd.S_far (p := ⟨gb791, 1, none⟩) (Kd.S_far (p := ⟨gb791, 0, none⟩) (Kd.S_types HO787.out BK791.out (by decide)) (fun _ hk => hk.2) (.int .i64 t783)) (fun _ hk => hk.2) (.int .i64 t784)) (fun _ hk => hk.2) (.slice Ao28 t785.length co28)) (fun _ hk => hk.2) (.slice Ao29 t788.length co29)) (fun _ hk => hk.1.2))⟩
       have n3_ : Aside0 (Kd.S k45 45 ((((w25.setCell ⟨gb791, 0, none⟩ (.int .i64 t783)).setCell ⟨gb791, 1, none⟩ (.int .i64 t784)).setCell ⟨gb791, 2, none⟩ (.slice Ao28 t785.length co28)).setCell ⟨gb791, 3, none⟩ (.slice Ao29 t788.length co29)) w.heap.size (fun k_ => some k_ ≠ (.slice Ao23 t779.length co23 : Value).ownBlock) (.slice Ao29 t788.length co29) t788) := ⟨by exact sT (Kd.S_mono (Kd.S_far (p := ⟨gb791, 3, none⟩) (Kd.S_far (p := ⟨gb791, 2, none⟩) (Kd.S_far (p := ⟨gb791, 1, none⟩) (Kd.S_far (p := ⟨gb791, 0, none⟩) (Kd.S_types HO790.out BK791.out (by decide)) (fun _ hk => hk.2) (.int .i64 t783)) (fun _ hk => hk.2) (.int .i64 t784)) (fun _ hk => hk.2) (.slice Ao28 t785.length co28)) (fun _ hk => hk.2) (.slice Ao29 t788.length co29)) (fun _ hk => hk.1.2))⟩
       have n4_ : Aside0 (((((w25.setCell ⟨gb791, 0, none⟩ (.int .i64 t783)).setCell ⟨gb791, 1, none⟩ (.int .i64 t784)).setCell ⟨gb791, 2, none⟩ (.slice Ao28 t785.length co28)).setCell ⟨gb791, 3, none⟩ (.slice Ao29 t788.length co29)).heap[gb782]? = some (.cells #[.int .i64 t774, .int .i64 t775, .slice Ao22 t776.length co22, .slice Ao23 t779.length co23] 58 (0, 0))) := ⟨kS⟩
       have n5_ : Aside0 (((((w25.setCell ⟨gb791, 0, none⟩ (.int .i64 t783)).setCell ⟨gb791, 1, none⟩ (.int .i64 t784)).setCell ⟨gb791, 2, none⟩ (.slice Ao28 t785.length co28)).setCell ⟨gb791, 3, none⟩ (.slice Ao29 t788.length co29)).heap[gb791]? = some (.cells #[.int .i64 t783, .int .i64 t784, .slice Ao28 t785.length co28, .slice Ao29 t788.length co29] 58 (0, 0))) := ⟨kS⟩
       have n6_ : Aside0 (Below w.heap.size w ((((w25.setCell ⟨gb791, 0, none⟩ (.int .i64 t783)).setCell ⟨gb791, 1, none⟩ (.int .i64 t784)).setCell ⟨gb791, 2, none⟩ (.slice Ao28 t785.length co28)).setCell ⟨gb791, 3, none⟩ (.slice Ao29 t788.length co29))) := ⟨bS⟩
       (try clear HO778)
       (try clear HO781)
       (try clear HO787)
       (try clear HO790)
       (try clear BK782)
       (try clear BK791)
       (try clear HB)
       generalize ((((w25.setCell ⟨gb791, 0, none⟩ (.int .i64 t783)).setCell ⟨gb791, 1, none⟩ (.int .i64 t784)).setCell ⟨gb791, 2, none⟩ (.slice Ao28 t785.length co28)).setCell ⟨gb791, 3, none⟩ (.slice Ao29 t788.length co29)) = w30 at n0_ n1_ n2_ n3_ n4_ n5_ n6_ ⊢
       have HO778 := n0_
       have HO781 := n1_
       have HO787 := n2_
       have HO790 := n3_
       have BK782 := n4_
       have BK791 := n5_
       have HB := n6_
       clear n0_ n1_ n2_ n3_ n4_ n5_ n6_
       replace HO778 := Aside0.mk (Kd.S_drew HO778.out)
       replace HO781 := Aside0.mk (Kd.S_drew HO781.out)
       replace HO787 := Aside0.mk (Kd.S_drew HO787.out)
       replace HO790 := Aside0.mk (Kd.S_drew HO790.out)
       replace BK782 := Aside0.mk (blk_drew BK782.out)
       replace BK791 := Aside0.mk (blk_drew BK791.out)
       replace HB := Aside0.mk (below_drew1 HB.out)
       refine start_ (n := 32) (S := fun w' => w'.cell? ⟨gb782, 0, none⟩ = some (.int .i64 t774) ∧ w'.cell? ⟨gb782, 1, none⟩ = some (.int .i64 t775) ∧ w'.cell? ⟨gb782, 2, none⟩ = some (.slice Ao22 t776.length co22) ∧ w'.cell? ⟨gb782, 3, none⟩ = some (.slice Ao23 t779.length co23) ∧ w'.cell? ⟨gb791, 0, none⟩ = some (.int .i64 t783) ∧ w'.cell? ⟨gb791, 1, none⟩ = some (.int .i64 t784) ∧ w'.cell? ⟨gb791, 2, none⟩ = some (.slice Ao28 t785.length co28) ∧ w'.cell? ⟨gb791, 3, none⟩ = some (.slice Ao29 t788.length co29)) (ds := []) #[false, false, false, false, false, false, false, false, false, false, false, false, false, false, false, false, false, false, false, false, false, false, false, false, false, false, false, false, false, false, false, false] (by kernel_rfl) rfl rfl ⟨(blk_cell BK782.out 0).trans rfl, (blk_cell BK782.out 1).trans rfl, (blk_cell BK782.out 2).trans rfl, (blk_cell BK782.out 3).trans rfl, (blk_cell BK791.out 0).trans rfl, (blk_cell BK791.out 1).trans rfl, (blk_cell BK791.out 2).trans rfl, (blk_cell BK791.out 3).trans rfl⟩ (fun hHeld => ?_); refine with_tabW laws_FnMerges.tab5 laws_FnMerges.bits5 (fun HT_ HW_ => ?_)
       generalize w30.drew = w31 at HO778 HO781 HO787 HO790 BK782 BK791 HB hHeld ⊢
       refine tK 0 (some 11) #[true, false, false, false, false, false, false, false, false, false, false, false, false, false, false, false, false, false, false, false, false, false, false, false, false, false, false, false, false, false, false, false] ?_
       refine one_ (i := 1) (N := some 12) #[true, true, false, false, false, false, false, false, false, false, false, false, false, false, false, false, false, false, false, false, false, false, false, false, false, false, false, false, false, false, false, false] rfl rfl (one_of HT_.out (by kernel_rfl)) (by decide) (fun K hK => ?_)
       refine goes_ Try.func35 (by kernel_rfl) rfl #[.agg #[.int .i64 t774, .int .i64 t775, .slice Ao22 t776.length co22, .slice Ao23 t779.length co23]] (by rfl) rfl rfl (by (try simp only [List.map_toArray, List.map_cons, List.map_nil]); first | done | rfl | (simp only [List.length_drop, List.length_take]; rfl)) ?_
       with_reducible refine (impl_BandOk.calls k t774 t775 _ _ t776 _ _ t779 _ _ ?side1 ?side2 ?side3 ?side4 A6.out).mono ?_
       (case side1 => exact cS (Kd.S_reads' HO778.out).2.2)
       (case side2 => exact (Kd.S_reads' HO778.out).2.1)
       (case side3 => exact cS (Kd.S_reads' HO781.out).2.2)
       (case side4 => exact (Kd.S_reads' HO781.out).2.1)
       rintro e w32 ⟨rfl, hb⟩
       refine ⟨_, rfl, ?_⟩
       replace HO778 := sB HO778 hb
       replace HO781 := sB HO781 hb
       replace HO787 := sB HO787 hb
       replace HO790 := sB HO790 hb
       replace BK782 := kB (g := gb782) hb
       replace BK791 := kB (g := gb791) hb
       replace HB := hB hb
       (try clear hb)
       (try clear hb2)
       (try clear hk)
       (try clear hi)
       refine hK.out _ _ ⟨(blk_cell BK782.out 0).trans rfl, (blk_cell BK782.out 1).trans rfl, (blk_cell BK782.out 2).trans rfl, (blk_cell BK782.out 3).trans rfl, (blk_cell BK791.out 0).trans rfl, (blk_cell BK791.out 1).trans rfl, (blk_cell BK791.out 2).trans rfl, (blk_cell BK791.out 3).trans rfl⟩ (fun hHeld => ?_)
       clear hK K
       refine norm_ (a' := ?_) ?_ ?_
       rotate_left
       ·show Act.put _ (some 12) _ = _
        simp only [Act.put, List.setIfInBounds_toArray, List.set_cons_zero, List.set_cons_succ, i64_w, i32_w]
        rfl
       refine pU 2 (some 13) #[true, true, true, false, false, false, false, false, false, false, false, false, false, false, false, false, false, false, false, false, false, false, false, false, false, false, false, false, false, false, false, false] ?_
       refine tK 3 (some 14) #[true, true, true, true, false, false, false, false, false, false, false, false, false, false, false, false, false, false, false, false, false, false, false, false, false, false, false, false, false, false, false, false] ?_
       refine one_ (i := 4) (N := some 15) #[true, true, true, true, true, false, false, false, false, false, false, false, false, false, false, false, false, false, false, false, false, false, false, false, false, false, false, false, false, false, false, false] rfl rfl (one_of HT_.out (by kernel_rfl)) (by decide) (fun K hK => ?_)
       refine goes_ Try.func35 (by kernel_rfl) rfl #[.agg #[.int .i64 t783, .int .i64 t784, .slice Ao28 t785.length co28, .slice Ao29 t788.length co29]] (by rfl) rfl rfl (by (try simp only [List.map_toArray, List.map_cons, List.map_nil]); first | done | rfl | (simp only [List.length_drop, List.length_take]; rfl)) ?_
       with_reducible refine (impl_BandOk.calls k t783 t784 _ _ t785 _ _ t788 _ _ ?side1 ?side2 ?side3 ?side4 A8.out).mono ?_
       (case side1 => exact cS (Kd.S_reads' HO787.out).2.2)
       (case side2 => exact (Kd.S_reads' HO787.out).2.1)
       (case side3 => exact cS (Kd.S_reads' HO790.out).2.2)
       (case side4 => exact (Kd.S_reads' HO790.out).2.1)
       rintro e w33 ⟨rfl, hb⟩
       refine ⟨_, rfl, ?_⟩
       replace HO778 := sB HO778 hb
       replace HO781 := sB HO781 hb
       replace HO787 := sB HO787 hb
       replace HO790 := sB HO790 hb
       replace BK782 := kB (g := gb782) hb
       replace BK791 := kB (g := gb791) hb
       replace HB := hB hb
       (try clear hb)
       (try clear hb2)
       (try clear hk)
       (try clear hi)
       refine hK.out _ _ ⟨(blk_cell BK782.out 0).trans rfl, (blk_cell BK782.out 1).trans rfl, (blk_cell BK782.out 2).trans rfl, (blk_cell BK782.out 3).trans rfl, (blk_cell BK791.out 0).trans rfl, (blk_cell BK791.out 1).trans rfl, (blk_cell BK791.out 2).trans rfl, (blk_cell BK791.out 3).trans rfl⟩ (fun hHeld => ?_)
       clear hK K
       refine norm_ (a' := ?_) ?_ ?_
       rotate_left
       ·show Act.put _ (some 15) _ = _
        simp only [Act.put, List.setIfInBounds_toArray, List.set_cons_zero, List.set_cons_succ, i64_w, i32_w]
        rfl
       refine pU 5 (some 16) #[true, true, true, true, true, true, false, false, false, false, false, false, false, false, false, false, false, false, false, false, false, false, false, false, false, false, false, false, false, false, false, false] ?_
       refine pU 6 (some 17) #[true, true, true, true, true, true, true, false, false, false, false, false, false, false, false, false, false, false, false, false, false, false, false, false, false, false, false, false, false, false, false, false] ?_
       refine pU 7 (some 18) #[true, true, true, true, true, true, true, true, false, false, false, false, false, false, false, false, false, false, false, false, false, false, false, false, false, false, false, false, false, false, false, false] ?_
       refine tK 8 (some 19) #[true, true, true, true, true, true, true, true, true, false, false, false, false, false, false, false, false, false, false, false, false, false, false, false, false, false, false, false, false, false, false, false] ?_
       refine pU 9 (some 20) #[true, true, true, true, true, true, true, true, true, true, false, false, false, false, false, false, false, false, false, false, false, false, false, false, false, false, false, false, false, false, false, false] ?_
       refine pU 10 (some 21) #[true, true, true, true, true, true, true, true, true, true, true, false, false, false, false, false, false, false, false, false, false, false, false, false, false, false, false, false, false, false, false, false] ?_
       refine pU 11 (some 22) #[true, true, true, true, true, true, true, true, true, true, true, true, false, false, false, false, false, false, false, false, false, false, false, false, false, false, false, false, false, false, false, false] ?_
       refine pU 12 (some 23) #[true, true, true, true, true, true, true, true, true, true, true, true, true, false, false, false, false, false, false, false, false, false, false, false, false, false, false, false, false, false, false, false] ?_
       refine tK 13 (some 24) #[true, true, true, true, true, true, true, true, true, true, true, true, true, true, false, false, false, false, false, false, false, false, false, false, false, false, false, false, false, false, false, false] ?_
       refine one_ (i := 14) (N := some 25) #[true, true, true, true, true, true, true, true, true, true, true, true, true, true, true, false, false, false, false, false, false, false, false, false, false, false, false, false, false, false, false, false] rfl rfl (one_of HT_.out (by kernel_rfl)) (by decide) (fun K hK => ?_)
       refine goes_ Try.func63 (by kernel_rfl) rfl #[.agg #[.int .i64 t783, .int .i64 t784, .slice Ao28 t785.length co28, .slice Ao29 t788.length co29]] (by rfl) rfl rfl (by (try simp only [List.map_toArray, List.map_cons, List.map_nil]); first | done | rfl | (simp only [List.length_drop, List.length_take]; rfl)) ?_
       with_reducible refine (impl_BandCells.calls k t783 t784 _ _ t785 _ _ t788 t794 _ ?side1 ?side2 ?side3 ?side4 A11.out).mono ?_
       (case side1 => exact cS (Kd.S_reads' HO787.out).2.2)
       (case side2 => exact (Kd.S_reads' HO787.out).2.1)
       (case side3 => exact cS (Kd.S_reads' HO790.out).2.2)
       (case side4 => exact (Kd.S_reads' HO790.out).2.1)
       rintro e w34 ⟨rfl, hb⟩
       refine ⟨_, rfl, ?_⟩
       replace HO778 := sB HO778 hb
       replace HO781 := sB HO781 hb
       replace HO787 := sB HO787 hb
       replace HO790 := sB HO790 hb
       replace BK782 := kB (g := gb782) hb
       replace BK791 := kB (g := gb791) hb
       replace HB := hB hb
       (try clear hb)
       (try clear hb2)
       (try clear hk)
       (try clear hi)
       refine hK.out _ _ ⟨(blk_cell BK782.out 0).trans rfl, (blk_cell BK782.out 1).trans rfl, (blk_cell BK782.out 2).trans rfl, (blk_cell BK782.out 3).trans rfl, (blk_cell BK791.out 0).trans rfl, (blk_cell BK791.out 1).trans rfl, (blk_cell BK791.out 2).trans rfl, (blk_cell BK791.out 3).trans rfl⟩ (fun hHeld => ?_)
       clear hK K
       refine norm_ (a' := ?_) ?_ ?_
       rotate_left
       ·show Act.put _ (some 25) _ = _
        simp only [Act.put, List.setIfInBounds_toArray, List.set_cons_zero, List.set_cons_succ, i64_w, i32_w]
        rfl
       refine pU 15 (some 26) #[true, true, true, true, true, true, true, true, true, true, true, true, true, true, true, true, false, false, false, false, false, false, false, false, false, false, false, false, false, false, false, false] ?_
       refine pU 16 (some 27) #[true, true, true, true, true, true, true, true, true, true, true, true, true, true, true, true, true, false, false, false, false, false, false, false, false, false, false, false, false, false, false, false] ?_
       refine pU 17 (some 28) #[true, true, true, true, true, true, true, true, true, true, true, true, true, true, true, true, true, true, false, false, false, false, false, false, false, false, false, false, false, false, false, false] ?_
       refine tK 18 (some 29) #[true, true, true, true, true, true, true, true, true, true, true, true, true, true, true, true, true, true, true, false, false, false, false, false, false, false, false, false, false, false, false, false] ?_
       refine tK 20 (some 31) #[true, true, true, true, true, true, true, true, true, true, true, true, true, true, true, true, true, true, true, false, true, false, false, false, false, false, false, false, false, false, false, false] ?_
       refine one_ (i := 19) (N := some 30) #[true, true, true, true, true, true, true, true, true, true, true, true, true, true, true, true, true, true, true, true, true, false, false, false, false, false, false, false, false, false, false, false] rfl rfl (one_of HT_.out (by kernel_rfl)) (by decide) (fun K hK => ?_)
       refine goes_ Try.func64 (by kernel_rfl) rfl #[.agg #[.int .i64 t774, .int .i64 t775, .slice Ao22 t776.length co22, .slice Ao23 t779.length co23]] (by rfl) rfl rfl (by (try simp only [List.map_toArray, List.map_cons, List.map_nil]); first | done | rfl | (simp only [List.length_drop, List.length_take]; rfl)) ?_
       with_reducible refine (impl_RowsOfBand.calls k t774 t775 _ _ t776 _ _ t779 t795 _ ?side1 ?side2 ?side3 ?side4 A13.out).mono ?_
       (case side1 => exact cS (Kd.S_reads' HO778.out).2.2)
       (case side2 => exact (Kd.S_reads' HO778.out).2.1)
       (case side3 => exact cS (Kd.S_reads' HO781.out).2.2)
       (case side4 => exact (Kd.S_reads' HO781.out).2.1)
       rintro e w35 ⟨v796, rfl, ho0, hb⟩
       refine ⟨_, rfl, ?_⟩
       have HO797 := Aside0.mk (Kd.S_lower (Kd.S_new' (Kd.S_new' ho0 (Kd.S_lt (sS HO778))) (Kd.S_lt (sS HO787))) (below_size bS))
       replace HO778 := Aside0.mk (Kd.S_elder' (sS HO778) (Kd.S_base ho0) hb)
       replace HO781 := sB HO781 hb
       replace HO787 := Aside0.mk (Kd.S_elder' (sS HO787) (Kd.S_base ho0) hb)
       replace HO790 := sB HO790 hb
       replace BK782 := kB (g := gb782) hb
       replace BK791 := kB (g := gb791) hb
       replace HB := hB hb
       (try clear hb)
       (try clear hb2)
       (try clear hk)
       (try clear hi)
       (try clear ho0)
       refine hK.out _ _ ⟨(blk_cell BK782.out 0).trans rfl, (blk_cell BK782.out 1).trans rfl, (blk_cell BK782.out 2).trans rfl, (blk_cell BK782.out 3).trans rfl, (blk_cell BK791.out 0).trans rfl, (blk_cell BK791.out 1).trans rfl, (blk_cell BK791.out 2).trans rfl, (blk_cell BK791.out 3).trans rfl⟩ (fun hHeld => ?_)
       clear hK K
       refine norm_ (a' := ?_) ?_ ?_
       rotate_left
       ·show Act.put _ (some 30) _ = _
        simp only [Act.put, List.setIfInBounds_toArray, List.set_cons_zero, List.set_cons_succ, i64_w, i32_w]
        rfl
       refine one_ (i := 21) (N := some 32) #[true, true, true, true, true, true, true, true, true, true, true, true, true, true, true, true, true, true, true, true, true, true, false, false, false, false, false, false, false, false, false, false] rfl rfl (one_of HT_.out (by kernel_rfl)) (by decide) (fun K hK => ?_)
       refine goes_ Try.func64 (by kernel_rfl) rfl #[.agg #[.int .i64 t783, .int .i64 t784, .slice Ao28 t785.length co28, .slice Ao29 t788.length co29]] (by rfl) rfl rfl (by (try simp only [List.map_toArray, List.map_cons, List.map_nil]); first | done | rfl | (simp only [List.length_drop, List.length_take]; rfl)) ?_
       with_reducible refine (impl_RowsOfBand.calls k t783 t784 _ _ t785 _ _ t788 t798 _ ?side1 ?side2 ?side3 ?side4 A14.out).mono ?_
       (case side1 => exact cS (Kd.S_reads' HO787.out).2.2)
       (case side2 => exact (Kd.S_reads' HO787.out).2.1)
       (case side3 => exact cS (Kd.S_reads' HO790.out).2.2)
       (case side4 => exact (Kd.S_reads' HO790.out).2.1)
       rintro e w36 ⟨v799, rfl, ho0, hb⟩
       refine ⟨_, rfl, ?_⟩
       have HO800 := Aside0.mk (Kd.S_lower (Kd.S_new' (Kd.S_new' (Kd.S_new' ho0 (Kd.S_lt (sS HO778))) (Kd.S_lt (sS HO787))) (Kd.S_lt (sS HO797))) (below_size bS))
       replace HO778 := Aside0.mk (Kd.S_elder' (sS HO778) (Kd.S_base ho0) hb)
       replace HO781 := sB HO781 hb
       replace HO787 := Aside0.mk (Kd.S_elder' (sS HO787) (Kd.S_base ho0) hb)
       replace HO790 := sB HO790 hb
       replace HO797 := Aside0.mk (Kd.S_elder' (sS HO797) (Kd.S_base ho0) hb)
       replace BK782 := kB (g := gb782) hb
       replace BK791 := kB (g := gb791) hb
       replace HB := hB hb
       (try clear hb)
       (try clear hb2)
       (try clear hk)
       (try clear hi)
       (try clear ho0)
       obtain ⟨Ao37, co37, eo37⟩ := Kd.S_slice HO797.out
       (first | subst eo37 | (injection eo37 with f1_ f2_ f3_; have f4_ := f1_.symm; have f5_ := f3_.symm; clear f1_ f2_ f3_; subst f4_; subst f5_))
       obtain ⟨Ao38, co38, eo38⟩ := Kd.S_slice HO800.out
       (first | subst eo38 | (injection eo38 with f1_ f2_ f3_; have f4_ := f1_.symm; have f5_ := f3_.symm; clear f1_ f2_ f3_; subst f4_; subst f5_))
       refine hK.out _ _ ⟨(blk_cell BK782.out 0).trans rfl, (blk_cell BK782.out 1).trans rfl, (blk_cell BK782.out 2).trans rfl, (blk_cell BK782.out 3).trans rfl, (blk_cell BK791.out 0).trans rfl, (blk_cell BK791.out 1).trans rfl, (blk_cell BK791.out 2).trans rfl, (blk_cell BK791.out 3).trans rfl⟩ (fun hHeld => ?_)
       clear hK K
       refine norm_ (a' := ?_) ?_ ?_
       rotate_left
       ·show Act.put _ (some 32) _ = _
        simp only [Act.put, List.setIfInBounds_toArray, List.set_cons_zero, List.set_cons_succ, i64_w, i32_w]
        rfl
       refine one_ (i := 22) (N := some 33) #[true, true, true, true, true, true, true, true, true, true, true, true, true, true, true, true, true, true, true, true, true, true, true, false, false, false, false, false, false, false, false, false] rfl rfl (one_of HT_.out (by kernel_rfl)) (by decide) (fun K hK => ?_)
       refine goes_ Try.func22 (by kernel_rfl) rfl #[.slice Ao37 t795.length co37, .slice Ao38 t798.length co38] (by rfl) rfl rfl (by (try simp only [List.map_toArray, List.map_cons, List.map_nil]); first | done | rfl | (simp only [List.length_drop, List.length_take]; rfl)) ?_
       with_reducible refine (impl_SameRows.calls k _ _ t795 _ _ t798 _ _ ?side1 ?side2 ?side3 ?side4 A15.out).mono ?_
       (case side1 => exact cS (Kd.S_reads' HO797.out).2.2)
       (case side2 => exact (Kd.S_reads' HO797.out).2.1)
       (case side3 => exact cS (Kd.S_reads' HO800.out).2.2)
       (case side4 => exact (Kd.S_reads' HO800.out).2.1)
       rintro e w' ⟨rfl, ⟨nd, rfl⟩⟩
       refine ⟨_, rfl, ?_⟩
       refine hK.out _ _ ⟨(blk_cell BK782.out 0).trans rfl, (blk_cell BK782.out 1).trans rfl, (blk_cell BK782.out 2).trans rfl, (blk_cell BK782.out 3).trans rfl, (blk_cell BK791.out 0).trans rfl, (blk_cell BK791.out 1).trans rfl, (blk_cell BK791.out 2).trans rfl, (blk_cell BK791.out 3).trans rfl⟩ (fun hHeld => ?_)
       clear hK K
       refine norm_ (a' := ?_) ?_ ?_
       rotate_left
       ·show Act.put _ (some 33) _ = _
        simp only [Act.put, List.setIfInBounds_toArray, List.set_cons_zero, List.set_cons_succ, i64_w, i32_w]
        rfl
       refine pU 23 (some 34) #[true, true, true, true, true, true, true, true, true, true, true, true, true, true, true, true, true, true, true, true, true, true, true, true, false, false, false, false, false, false, false, false] ?_
       refine pU 24 (some 35) #[true, true, true, true, true, true, true, true, true, true, true, true, true, true, true, true, true, true, true, true, true, true, true, true, true, false, false, false, false, false, false, false] ?_
       refine pU 27 (some 38) #[true, true, true, true, true, true, true, true, true, true, true, true, true, true, true, true, true, true, true, true, true, true, true, true, true, false, false, true, false, false, false, false] ?_
       refine tK 25 (some 36) #[true, true, true, true, true, true, true, true, true, true, true, true, true, true, true, true, true, true, true, true, true, true, true, true, true, true, false, true, false, false, false, false] ?_
       refine tK 28 (some 39) #[true, true, true, true, true, true, true, true, true, true, true, true, true, true, true, true, true, true, true, true, true, true, true, true, true, true, false, true, true, false, false, false] ?_
       refine one_ (i := 26) (N := some 37) #[true, true, true, true, true, true, true, true, true, true, true, true, true, true, true, true, true, true, true, true, true, true, true, true, true, true, true, true, true, false, false, false] rfl rfl (one_of HT_.out (by kernel_rfl)) (by decide) (fun K hK => ?_)
       refine goes_ Try.func64 (by kernel_rfl) rfl #[.agg #[.int .i64 t783, .int .i64 t784, .slice Ao28 t785.length co28, .slice Ao29 t788.length co29]] (by rfl) rfl rfl (by (try simp only [List.map_toArray, List.map_cons, List.map_nil]); first | done | rfl | (simp only [List.length_drop, List.length_take]; rfl)) ?_
       with_reducible refine (impl_RowsOfBand.calls k t783 t784 _ _ t785 _ _ t788 t802 _ ?side1 ?side2 ?side3 ?side4 A17.out).mono ?_
       (case side1 => exact cS (Kd.S_reads' HO787.out).2.2)
       (case side2 => exact (Kd.S_reads' HO787.out).2.1)
       (case side3 => exact cS (Kd.S_reads' HO790.out).2.2)
       (case side4 => exact (Kd.S_reads' HO790.out).2.1)
       rintro e w39 ⟨v803, rfl, ho0, hb⟩
       refine ⟨_, rfl, ?_⟩
       have HO804 := Aside0.mk (Kd.S_lower (Kd.S_new' (Kd.S_new' (Kd.S_new' (Kd.S_new' ho0 (Kd.S_lt (sS HO778))) (Kd.S_lt (sS HO787))) (Kd.S_lt (sS HO797))) (Kd.S_lt (sS HO800))) (below_size bS))
       replace HO778 := Aside0.mk (Kd.S_elder' (sS HO778) (Kd.S_base ho0) hb)
       replace HO781 := sB HO781 hb
       replace HO787 := Aside0.mk (Kd.S_elder' (sS HO787) (Kd.S_base ho0) hb)
       replace HO790 := sB HO790 hb
       replace HO797 := Aside0.mk (Kd.S_elder' (sS HO797) (Kd.S_base ho0) hb)
       replace HO800 := Aside0.mk (Kd.S_elder' (sS HO800) (Kd.S_base ho0) hb)
       replace BK782 := kB (g := gb782) hb
       replace BK791 := kB (g := gb791) hb
       replace HB := hB hb
       (try clear hb)
       (try clear hb2)
       (try clear hk)
       (try clear hi)
       (try clear ho0)
       obtain ⟨Ao40, co40, eo40⟩ := Kd.S_slice HO804.out
       (first | subst eo40 | (injection eo40 with f1_ f2_ f3_; have f4_ := f1_.symm; have f5_ := f3_.symm; clear f1_ f2_ f3_; subst f4_; subst f5_))
       refine hK.out _ _ ⟨(blk_cell BK782.out 0).trans rfl, (blk_cell BK782.out 1).trans rfl, (blk_cell BK782.out 2).trans rfl, (blk_cell BK782.out 3).trans rfl, (blk_cell BK791.out 0).trans rfl, (blk_cell BK791.out 1).trans rfl, (blk_cell BK791.out 2).trans rfl, (blk_cell BK791.out 3).trans rfl⟩ (fun hHeld => ?_)
       clear hK K
       refine norm_ (a' := ?_) ?_ ?_
       rotate_left
       ·show Act.put _ (some 37) _ = _
        simp only [Act.put, List.setIfInBounds_toArray, List.set_cons_zero, List.set_cons_succ, i64_w, i32_w]
        rfl
       refine one_ (i := 29) (N := some 40) #[true, true, true, true, true, true, true, true, true, true, true, true, true, true, true, true, true, true, true, true, true, true, true, true, true, true, true, true, true, true, false, false] rfl rfl (one_of HT_.out (by kernel_rfl)) (by decide) (fun K hK => ?_)
       refine goes_ Try.func22 (by kernel_rfl) rfl #[.slice Ao40 t802.length co40, .slice Ao28 t785.length co28] (by rfl) rfl rfl (by (try simp only [List.map_toArray, List.map_cons, List.map_nil]); first | done | rfl | (simp only [List.length_drop, List.length_take]; rfl)) ?_
       with_reducible refine (impl_SameRows.calls k _ _ t802 _ _ t785 t805 _ ?side1 ?side2 ?side3 ?side4 A18.out).mono ?_
       (case side1 => exact cS (Kd.S_reads' HO804.out).2.2)
       (case side2 => exact (Kd.S_reads' HO804.out).2.1)
       (case side3 => exact cS (Kd.S_reads' HO787.out).2.2)
       (case side4 => exact (Kd.S_reads' HO787.out).2.1)
       rintro e w' ⟨rfl, ⟨nd, rfl⟩⟩
       refine ⟨_, rfl, ?_⟩
       refine hK.out _ _ ⟨(blk_cell BK782.out 0).trans rfl, (blk_cell BK782.out 1).trans rfl, (blk_cell BK782.out 2).trans rfl, (blk_cell BK782.out 3).trans rfl, (blk_cell BK791.out 0).trans rfl, (blk_cell BK791.out 1).trans rfl, (blk_cell BK791.out 2).trans rfl, (blk_cell BK791.out 3).trans rfl⟩ (fun hHeld => ?_)
       clear hK K
       refine norm_ (a' := ?_) ?_ ?_
       rotate_left
       ·show Act.put _ (some 40) _ = _
        simp only [Act.put, List.setIfInBounds_toArray, List.set_cons_zero, List.set_cons_succ, i64_w, i32_w]
        rfl
       refine pU 30 (some 41) #[true, true, true, true, true, true, true, true, true, true, true, true, true, true, true, true, true, true, true, true, true, true, true, true, true, true, true, true, true, true, true, false] ?_
       refine pU 31 (some 2) #[true, true, true, true, true, true, true, true, true, true, true, true, true, true, true, true, true, true, true, true, true, true, true, true, true, true, true, true, true, true, true, true] ?_
       refine done_ (done_of HT_.out (by kernel_rfl)) ?_
       try go_wp2
       go_ret
       exact ⟨eS, bS⟩
      ·obtain rfl := Bool.eq_false_iff.mpr c16
       rw [if_neg nF] at H
       exact absurd ((Option.some.inj H).trans hT) (by decide)
     ·rw [if_neg c12] at H; exact absurd ((Option.some.inj H).trans hT) (by decide)
    ·rw [if_neg c10] at H; exact absurd ((Option.some.inj H).trans hT) (by decide)
   ·obtain rfl := Bool.eq_false_iff.mpr c9
    rw [if_neg nF] at H
    exact absurd ((Option.some.inj H).trans hT) (by decide)
  ·obtain rfl := Bool.eq_false_iff.mpr c7
   rw [if_neg nF] at H
   exact absurd ((Option.some.inj H).trans hT) (by decide)

end Go.Proofs.Ytigodjcnkgebaaa.QFnMerges
