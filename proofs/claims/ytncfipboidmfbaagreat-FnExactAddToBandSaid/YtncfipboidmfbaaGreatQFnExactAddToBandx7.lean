-- Made out of the translation by a program of this session (a changed copy of the print). Not trusted: Lean checks it.
import Derived.Test.YtncfipboidmfbaaGreatQFnExactAddToBandx0
import Derived.Test.YtncfipboidmfbaaGreatQFnExactAddToBandx1
import Derived.Test.YtncfipboidmfbaaGreatQFnExactAddToBandx2
import Derived.Test.YtncfipboidmfbaaGreatQFnExactAddToBandx4
import Derived.Test.YtncfipboidmfbaaGreatQFnExactAddToBandx6
namespace Go.Proofs.YtncfipboidmfbaaGreat.QFnExactAddToBand
open Go.RowKit Go.Proofs.YtncfipboidmfbaaGreatW.PrintWords Go.Proofs.YtncfipboidmfbaaGreatW.PrintLast Go.Proofs.YtncfipboidmfbaaGreatW.PrintMore
attribute [local go_sem] max2_int min2_int max_two min_two max_three min_three max_four min_four   -- for this text's walks alone
set_option linter.unusedVariables false
set_option linter.unusedSimpArgs false
set_option maxHeartbeats 8000000
set_option maxRecDepth 100000

/-! ### laws_FnExactAddToBand: function 5 -/
def laws_FnExactAddToBand.f (k : Nat) (a0_0 : Int) (a0_1 : Int) (l0_2 : List (List Int)) (l0_3 : List (S42)) (l1_0 : List (S153)) (a1_1 : Int) (a1_2 : Int) (a1_3 : Int) (a1_4 : Int) (a1_5 : Int) : Option (Bool) := (laws_szBand.f k a0_0 a0_1 l0_2 l0_3 1048576).bind fun t749 => (if t749 < 0 then (some true) else ((laws_szObject.f l1_0 a1_1 a1_2 a1_3 a1_4 a1_5 t749).bind fun t750 => (if t750 < 0 then (some true) else ((laws_toBand.f k a0_0 a0_1 l0_2 l0_3).bind fun bt751 => ((laws_toObject.f k l1_0 a1_1 a1_2 a1_3 a1_4 a1_5).bind fun bt759 => ((spec_AddToBand.f k bt751.1 bt751.2.1 bt751.2.2.1 bt751.2.2.2 bt759.1 bt759.2.1 bt759.2.2.1 bt759.2.2.2.1 bt759.2.2.2.2.1 bt759.2.2.2.2.2).bind fun bt767 => ((laws_toBand.f k a0_0 a0_1 l0_2 l0_3).bind fun bt777 => ((laws_toObject.f k l1_0 a1_1 a1_2 a1_3 a1_4 a1_5).bind fun bt786 => ((impl_AddToBand.f k bt777.1 bt777.2.1 bt777.2.2.1 bt777.2.2.2 bt786.1 bt786.2.1 bt786.2.2.1 bt786.2.2.2.1 bt786.2.2.2.2.1 bt786.2.2.2.2.2).bind fun bt795 => ((laws_eqBand.f k bt795.1 bt795.2.1 bt795.2.2.1 bt795.2.2.2.1 bt767.1 bt767.2.1 bt767.2.2.1 bt767.2.2.2.1).bind fun t805 => (if t805 = true then (if (bt795.2.2.2.2 != bt767.2.2.2.2) = true then (some false) else ((laws_toBand.f k a0_0 a0_1 l0_2 l0_3).bind fun bt806 => ((laws_eqBand.f k bt777.1 bt777.2.1 bt777.2.2.1 bt777.2.2.2 bt806.1 bt806.2.1 bt806.2.2.1 bt806.2.2.2).bind fun t814 => (if t814 = true then ((laws_toObject.f k l1_0 a1_1 a1_2 a1_3 a1_4 a1_5).bind fun bt815 => ((laws_eqObject.f k bt786.1 bt786.2.1 bt786.2.2.1 bt786.2.2.2.1 bt786.2.2.2.2.1 bt786.2.2.2.2.2 bt815.1 bt815.2.1 bt815.2.2.1 bt815.2.2.2.1 bt815.2.2.2.2.1 bt815.2.2.2.2.2).bind fun t823 => (if t823 = true then ((laws_markBand.f k bt777.1 bt777.2.1 bt777.2.2.1 bt777.2.2.2 1).bind fun bt824 => ((laws_markObject.f k bt786.1 bt786.2.1 bt786.2.2.1 bt786.2.2.2.1 bt786.2.2.2.2.1 bt786.2.2.2.2.2 bt824.1).bind fun bt827 => (if bt827.1 < 0 then (some false) else ((laws_eqBand.f k bt795.1 bt795.2.1 bt795.2.2.1 bt795.2.2.2.1 bt767.1 bt767.2.1 bt767.2.2.1 bt767.2.2.2.1).bind fun t829 => (if t829 = true then ((laws_markBand.f k bt795.1 bt795.2.1 bt795.2.2.1 bt795.2.2.2.1 1).bind fun bt830 => ((laws_heldBand.f k bt795.1 bt795.2.1 bt830.2.1 bt830.2.2 1).bind fun t833 => (if t833 < 0 then (some false) else (if t833 = bt830.1 then ((laws_toBand.f k a0_0 a0_1 l0_2 l0_3).bind fun bt834 => ((laws_toObject.f k l1_0 a1_1 a1_2 a1_3 a1_4 a1_5).bind fun bt842 => ((impl_AddToBand.f k bt834.1 bt834.2.1 bt834.2.2.1 bt834.2.2.2 bt842.1 bt842.2.1 bt842.2.2.1 bt842.2.2.2.1 bt842.2.2.2.2.1 bt842.2.2.2.2.2).bind fun bt850 => ((laws_eqBand.f k bt850.1 bt850.2.1 bt850.2.2.1 bt850.2.2.2.1 bt767.1 bt767.2.1 bt767.2.2.1 bt767.2.2.2.1).bind fun t860 => (if t860 = true then (if (bt850.2.2.2.2 != bt767.2.2.2.2) = true then (some false) else ((laws_heldBand.f k bt795.1 bt795.2.1 bt830.2.1 bt830.2.2 1).bind fun t861 => (if t861 < 0 then (some false) else (if t861 = bt830.1 then (some true) else (some false))))) else (some false)))))) else (some false))))) else (some false)))))) else (some false)))) else (some false))))) else (some false))))))))))))
def laws_FnExactAddToBand.T8 : Bool × List (List Nat × List Nat) := (true, [([], []), ([0], [0]), ([], []), ([2, 1], [2]), ([1, 3, 3], [1, 3]), ([4], [4]), ([5], [5]), ([5], [5]), ([], []), ([8, 6, 4, 0, 1, 2, 3, 4, 5, 6, 8], [6, 8]), ([7, 9, 0, 1, 2, 3, 4, 5, 6, 7, 8, 9], [7])])
def laws_FnExactAddToBand.B8 : List Nat := [0, 1, 0, 7, 15, 31, 63, 63, 0, 383, 1023]
theorem laws_FnExactAddToBand.tab8 : rtab .any (opsOf Tryz.f5 8) = laws_FnExactAddToBand.T8 := by kernel_rfl
theorem laws_FnExactAddToBand.bits8 : waitsOk laws_FnExactAddToBand.T8.2 laws_FnExactAddToBand.B8 = true := by kernel_rfl
def laws_FnExactAddToBand.T31 : Bool × List (List Nat × List Nat) := (true, [([], []), ([0], [0]), ([], []), ([2, 1], [2]), ([1, 3, 3], [1, 3]), ([4], [4]), ([5], [5]), ([5], [5]), ([], []), ([8, 6, 4, 0, 1, 2, 3, 4, 5, 6, 8], [6, 8]), ([7, 9, 0, 1, 2, 3, 4, 5, 6, 7, 8, 9], [7])])
def laws_FnExactAddToBand.B31 : List Nat := [0, 1, 0, 7, 15, 31, 63, 63, 0, 383, 1023]
theorem laws_FnExactAddToBand.tab31 : rtab .any (opsOf Tryz.f5 31) = laws_FnExactAddToBand.T31 := by kernel_rfl
theorem laws_FnExactAddToBand.bits31 : waitsOk laws_FnExactAddToBand.T31.2 laws_FnExactAddToBand.B31 = true := by kernel_rfl
theorem laws_FnExactAddToBand.lf0 {p : Prop} (h : p := by
 go_enter Tryz.func5, Tryz.ntmps5
 go_wp2_with (first | ((with_reducible refine gD 2 ?_); refine bxE #[.int .i64 a0_0, .int .i64 a0_1, .slice A0_2 l0_2.length c0_2, .slice A0_3 l0_3.length c0_3] 25 ?_; intro gb747 hg w12 BK747 hb; have GW747 := gE hg; have GE747 := gE hg; replace HB := hB hb; clear hb hg) | ((with_reducible refine gD 3 ?_); refine bxE #[.slice A1_0 l1_0.length c1_0, .int .i64 a1_1, .int .i64 a1_2, .int .i64 a1_3, .int .i64 a1_4, .int .i64 a1_5] 42 ?_; intro gb748 hg w13 BK748 hb; have GW748 := gE hg; have GE748 := gE hg; have NB747_748 := nL_ gb747 hg; have NB748_747 := nG_ gb747 hg; replace BK747 := kB_ gb747 hb; replace HB := hB hb; clear hb hg; have hnb14 := NB747_748.out; have hnc14 := NB748_747.out; have hz15 := cz4 BK747) | ((with_reducible refine gC 8 ?_); refine cM (some 19) Tryz.func8 (laws_szBand.calls k a0_0 a0_1 _ _ l0_2 _ _ l0_3 1048576 t749 _ (cC HR0_2 HB) HC0_2.out (cC HR0_3 HB) HC0_3.out A3.out) ?_; rintro e w16 ⟨rfl, hb⟩; refine ⟨_, rfl, ?_⟩; replace BK747 := kB_ gb747 hb; replace BK748 := kB_ gb748 hb; replace HB := hB hb; (try clear hb); have hz17 := cz6 BK748) | ((with_reducible refine gC 20 ?_); refine cM (some 24) Tryz.func20 (laws_szObject.calls _ _ l1_0 a1_1 a1_2 a1_3 a1_4 a1_5 t749 t750 _ (cC HR1_0 HB) HC1_0.out A10.out) ?_; rintro e w18 ⟨rfl, hb⟩; refine ⟨_, rfl, ?_⟩; replace BK747 := kB_ gb747 hb; replace BK748 := kB_ gb748 hb; replace HB := hB hb; (try clear hb)))
 go_ret
 exact ⟨eS, bS⟩) : p := h
theorem laws_FnExactAddToBand.calls (k : Nat) (a0_0 : Int) (a0_1 : Int) (A0_2 : Option Addr) (c0_2 : Nat) (l0_2 : List (List Int)) (A0_3 : Option Addr) (c0_3 : Nat) (l0_3 : List (S42)) (A1_0 : Option Addr) (c1_0 : Nat) (l1_0 : List (S153)) (a1_1 : Int) (a1_2 : Int) (a1_3 : Int) (a1_4 : Int) (a1_5 : Int) (r : Bool) (w : World) (hr0_2 : Kd.C (Kd.slice 3 (Kd.int .i64)) w A0_2 l0_2.length l0_2) (hc0_2 : l0_2.length ≤ c0_2) (hr0_3 : Kd.C k42 w A0_3 l0_3.length l0_3) (hc0_3 : l0_3.length ≤ c0_3) (hr1_0 : Kd.C k153 w A1_0 l1_0.length l1_0) (hc1_0 : l1_0.length ≤ c1_0) (h : laws_FnExactAddToBand.f k a0_0 a0_1 l0_2 l0_3 l1_0 a1_1 a1_2 a1_3 a1_4 a1_5 = some r) (hT : r = true) :
  Calls Tryz.prog 5 #[.agg #[.int .i64 a0_0, .int .i64 a0_1, .slice A0_2 l0_2.length c0_2, .slice A0_3 l0_3.length c0_3], .agg #[.slice A1_0 l1_0.length c1_0, .int .i64 a1_1, .int .i64 a1_2, .int .i64 a1_3, .int .i64 a1_4, .int .i64 a1_5]] w fun e w' => e = .returned (.bool r) ∧ Below w.heap.size w w' := by
 have hu25 := Tryz.underlying25
 have hu42 := Tryz.underlying42
 have hu30 := Tryz.underlying30
 have hu49 := Tryz.underlying49
 have HR0_2 := aM hr0_2
 have HC0_2 := aM hc0_2
 clear hr0_2 hc0_2
 have HR0_3 := aM hr0_3
 have HC0_3 := aM hc0_3
 clear hr0_3 hc0_3
 have HR1_0 := aM hr1_0
 have HC1_0 := aM hc1_0
 clear hr1_0 hc1_0
 have HB := aM (Below.refl w.heap.size w)
 have H := h
 clear h
 unfold laws_FnExactAddToBand.f at H
 replace H := bN H
 obtain ⟨t749, A3, H⟩ := H
 rcases iD H with ⟨c4b0, H⟩ | ⟨c4b0, H⟩
 ·obtain rfl := Option.some.inj H
  (try clear hT)
  exact laws_FnExactAddToBand.lf0
 ·replace H := bN H
  obtain ⟨t750, A10, H⟩ := H
  rcases iD H with ⟨c11b0, H⟩ | ⟨c11b0, H⟩
  ·obtain rfl := Option.some.inj H
   (try clear hT)
   exact laws_FnExactAddToBand.lf0
  ·replace H := bN H
   obtain ⟨⟨t751, t752, t753, t756⟩, A19, H⟩ := H
   replace H := bN H
   obtain ⟨⟨t759, t762, t763, t764, t765, t766⟩, A20, H⟩ := H
   replace H := bN H
   obtain ⟨⟨t767, t768, t769, t772, t775⟩, A21, H⟩ := H
   replace H := bN H
   obtain ⟨⟨t777, t778, t779, t782⟩, A22, H⟩ := H
   replace H := bN H
   obtain ⟨⟨t786, t789, t790, t791, t792, t793⟩, A23, H⟩ := H
   replace H := bN H
   obtain ⟨⟨t795, t796, t797, t800, t803⟩, A24, H⟩ := H
   replace H := bN H
   obtain ⟨t805, A25, H⟩ := H
   by_cases c26 : t805 = true
   ·subst c26
    rw [if_pos rfl] at H
    obtain ⟨c27, H⟩ := iN H hT
    have c27b0 : (t803 != t775) = false := by simpa using c27
    (try (have c27b1 : decide (t803 = t775) = true := by simpa using c27))
    (try (have c27b2 : (t803 == t775) = true := by simpa using c27))
    clear c27
    replace H := bN H
    obtain ⟨⟨t806, t807, t808, t811⟩, A28, H⟩ := H
    replace H := bN H
    obtain ⟨t814, A29, H⟩ := H
    by_cases c30 : t814 = true
    ·subst c30
     rw [if_pos rfl] at H
     replace H := bN H
     obtain ⟨⟨t815, t818, t819, t820, t821, t822⟩, A31, H⟩ := H
     replace H := bN H
     obtain ⟨t823, A32, H⟩ := H
     by_cases c33 : t823 = true
     ·subst c33
      rw [if_pos rfl] at H
      replace H := bN H
      obtain ⟨⟨t824, t825, t826⟩, A34, H⟩ := H
      replace H := bN H
      obtain ⟨⟨t827, t828⟩, A35, H⟩ := H
      obtain ⟨c36, H⟩ := iN H hT
      have c36b0 : decide (t827 < 0) = false := decide_eq_false c36
      clear c36
      replace H := bN H
      obtain ⟨t829, A37, H⟩ := H
      by_cases c38 : t829 = true
      ·subst c38
       rw [if_pos rfl] at H
       replace H := bN H
       obtain ⟨⟨t830, t831, t832⟩, A39, H⟩ := H
       replace H := bN H
       obtain ⟨t833, A40, H⟩ := H
       obtain ⟨c41, H⟩ := iN H hT
       have c41b0 : decide (t833 < 0) = false := decide_eq_false c41
       clear c41
       obtain ⟨c42, H⟩ := iG H hT
       have c42b0 : (t833 == t830) = true := beq_iff_eq.mpr c42
       have c42b1 : (t833 != t830) = false := bne_eq_false_iff_eq.mpr c42
       clear c42
       replace H := bN H
       obtain ⟨⟨t834, t835, t836, t839⟩, A43, H⟩ := H
       replace H := bN H
       obtain ⟨⟨t842, t845, t846, t847, t848, t849⟩, A44, H⟩ := H
       replace H := bN H
       obtain ⟨⟨t850, t851, t852, t855, t858⟩, A45, H⟩ := H
       replace H := bN H
       obtain ⟨t860, A46, H⟩ := H
       by_cases c47 : t860 = true
       ·subst c47
        rw [if_pos rfl] at H
        obtain ⟨c48, H⟩ := iN H hT
        have c48b0 : (t858 != t775) = false := by simpa using c48
        (try (have c48b1 : decide (t858 = t775) = true := by simpa using c48))
        (try (have c48b2 : (t858 == t775) = true := by simpa using c48))
        clear c48
        replace H := bN H
        obtain ⟨t861, A49, H⟩ := H
        obtain ⟨c50, H⟩ := iN H hT
        have c50b0 : decide (t861 < 0) = false := decide_eq_false c50
        clear c50
        obtain ⟨c51, H⟩ := iG H hT
        have c51b0 : (t861 == t830) = true := beq_iff_eq.mpr c51
        have c51b1 : (t861 != t830) = false := bne_eq_false_iff_eq.mpr c51
        clear c51
        obtain rfl := Option.some.inj H
        (try clear hT)
        go_enter Tryz.func5, Tryz.ntmps5
        try go_wp2_with (first | ((with_reducible refine gD 2 ?_); refine bxE #[.int .i64 a0_0, .int .i64 a0_1, .slice A0_2 l0_2.length c0_2, .slice A0_3 l0_3.length c0_3] 25 ?_; intro gb747 hg w52 BK747 hb; have GW747 := gE hg; have GE747 := gE hg; replace HB := hB hb; clear hb hg) | ((with_reducible refine gD 3 ?_); refine bxE #[.slice A1_0 l1_0.length c1_0, .int .i64 a1_1, .int .i64 a1_2, .int .i64 a1_3, .int .i64 a1_4, .int .i64 a1_5] 42 ?_; intro gb748 hg w53 BK748 hb; have GW748 := gE hg; have GE748 := gE hg; have NB747_748 := nL_ gb747 hg; have NB748_747 := nG_ gb747 hg; replace BK747 := kB_ gb747 hb; replace HB := hB hb; clear hb hg; have hnb54 := NB747_748.out; have hnc54 := NB748_747.out; have hz55 := cz4 BK747) | ((with_reducible refine gC 8 ?_); refine cM (some 19) Tryz.func8 (laws_szBand.calls k a0_0 a0_1 _ _ l0_2 _ _ l0_3 1048576 t749 _ (cC HR0_2 HB) HC0_2.out (cC HR0_3 HB) HC0_3.out A3.out) ?_; rintro e w56 ⟨rfl, hb⟩; refine ⟨_, rfl, ?_⟩; replace BK747 := kB_ gb747 hb; replace BK748 := kB_ gb748 hb; replace HB := hB hb; (try clear hb); have hz57 := cz6 BK748) | ((with_reducible refine gC 20 ?_); refine cM (some 24) Tryz.func20 (laws_szObject.calls _ _ l1_0 a1_1 a1_2 a1_3 a1_4 a1_5 t749 t750 _ (cC HR1_0 HB) HC1_0.out A10.out) ?_; rintro e w58 ⟨rfl, hb⟩; refine ⟨_, rfl, ?_⟩; replace BK747 := kB_ gb747 hb; replace BK748 := kB_ gb748 hb; replace HB := hB hb; (try clear hb)))
        replace BK747 := aM (blk_drew BK747.out)
        replace BK748 := aM (blk_drew BK748.out)
        replace HB := aM (below_drew1 HB.out)
        refine start_ (n := 11) (S := fun w' => w'.cell? ⟨gb747, 0, none⟩ = some (.int .i64 a0_0) ∧ w'.cell? ⟨gb747, 1, none⟩ = some (.int .i64 a0_1) ∧ w'.cell? ⟨gb747, 2, none⟩ = some (.slice A0_2 l0_2.length c0_2) ∧ w'.cell? ⟨gb747, 3, none⟩ = some (.slice A0_3 l0_3.length c0_3) ∧ w'.cell? ⟨gb748, 0, none⟩ = some (.slice A1_0 l1_0.length c1_0) ∧ w'.cell? ⟨gb748, 1, none⟩ = some (.int .i64 a1_1) ∧ w'.cell? ⟨gb748, 2, none⟩ = some (.int .i64 a1_2) ∧ w'.cell? ⟨gb748, 3, none⟩ = some (.int .i64 a1_3) ∧ w'.cell? ⟨gb748, 4, none⟩ = some (.int .i64 a1_4) ∧ w'.cell? ⟨gb748, 5, none⟩ = some (.int .i64 a1_5)) (ds := []) (mB 11 0) (by kernel_rfl) rfl rfl (cx4 BK747 (cy6 BK748)) (fun hHeld => ?_); refine with_tabW laws_FnExactAddToBand.tab8 laws_FnExactAddToBand.bits8 (fun HT_ HW_ => ?_)
        generalize w58.drew = w59 at BK747 BK748 HB hHeld ⊢
        refine tK 0 (some 28) (mB 11 1) ?_
        refine tK 2 (some 30) (mB 11 5) ?_
        refine join_ (σ := Value × Value × Nat × Nat × Value × Nat × Value × Value × Nat × Nat × Nat) 2 (mB 11 511) (fun s_ => [(29, .agg #[.int .i64 t751, .int .i64 t752, s_.1, s_.2.1]), (31, .agg #[s_.2.2.2.2.1, .int .i64 t762, .int .i64 t763, .int .i64 t764, .int .i64 t765, .int .i64 t766]), (32, .tuple #[.agg #[.int .i64 t767, .int .i64 t768, s_.2.2.2.2.2.2.1, s_.2.2.2.2.2.2.2.1], .bool t775]), (6, .pointer (some ⟨s_.2.2.2.2.2.2.2.2.2.2, 0, none⟩)), (27, .tuple #[.agg #[.int .i64 t767, .int .i64 t768, s_.2.2.2.2.2.2.1, s_.2.2.2.2.2.2.2.1], .bool t775]), (33, .agg #[.int .i64 t767, .int .i64 t768, s_.2.2.2.2.2.2.1, s_.2.2.2.2.2.2.2.1]), (34, .bool t775)]) (fun s_ w' => (w'.cell? ⟨gb747, 0, none⟩ = some (.int .i64 a0_0) ∧ w'.cell? ⟨gb747, 1, none⟩ = some (.int .i64 a0_1) ∧ w'.cell? ⟨gb747, 2, none⟩ = some (.slice A0_2 l0_2.length c0_2) ∧ w'.cell? ⟨gb747, 3, none⟩ = some (.slice A0_3 l0_3.length c0_3) ∧ w'.cell? ⟨gb748, 0, none⟩ = some (.slice A1_0 l1_0.length c1_0) ∧ w'.cell? ⟨gb748, 1, none⟩ = some (.int .i64 a1_1) ∧ w'.cell? ⟨gb748, 2, none⟩ = some (.int .i64 a1_2) ∧ w'.cell? ⟨gb748, 3, none⟩ = some (.int .i64 a1_3) ∧ w'.cell? ⟨gb748, 4, none⟩ = some (.int .i64 a1_4) ∧ w'.cell? ⟨gb748, 5, none⟩ = some (.int .i64 a1_5)) ∧ (Kd.S (Kd.slice 3 (Kd.int .i64)) 54 w' s_.2.2.1 (fun k_ => k_ < s_.2.2.2.2.2.1 ∧ k_ < s_.2.2.2.2.2.2.2.2.1 ∧ k_ < s_.2.2.2.2.2.2.2.2.2.1) s_.1 t753) ∧ (Kd.S k49 49 w' s_.2.2.2.1 (fun k_ => k_ < s_.2.2.2.2.2.1 ∧ k_ < s_.2.2.2.2.2.2.2.2.1 ∧ k_ < s_.2.2.2.2.2.2.2.2.2.1) s_.2.1 t756) ∧ (Kd.R k151 151 w' s_.2.2.2.2.2.1 (fun k_ => k_ < s_.2.2.2.2.2.2.2.2.1 ∧ k_ < s_.2.2.2.2.2.2.2.2.2.1) s_.2.2.2.2.1 t759) ∧ (Kd.S (Kd.slice 3 (Kd.int .i64)) 54 w' s_.2.2.2.2.2.2.2.2.1 (fun _ => True) s_.2.2.2.2.2.2.1 t769) ∧ (Kd.S k49 49 w' s_.2.2.2.2.2.2.2.2.2.1 (fun _ => True) s_.2.2.2.2.2.2.2.1 t772) ∧ (w.heap.size ≤ s_.2.2.1) ∧ (w.heap.size ≤ s_.2.2.2.1) ∧ (w.heap.size ≤ s_.2.2.2.2.2.1) ∧ (w.heap.size ≤ s_.2.2.2.2.2.2.2.2.1) ∧ (w.heap.size ≤ s_.2.2.2.2.2.2.2.2.2.1) ∧ (w'.heap[gb747]? = some (.cells #[.int .i64 a0_0, .int .i64 a0_1, .slice A0_2 l0_2.length c0_2, .slice A0_3 l0_3.length c0_3] 25 (0, 0))) ∧ (w'.heap[gb748]? = some (.cells #[.slice A1_0 l1_0.length c1_0, .int .i64 a1_1, .int .i64 a1_2, .int .i64 a1_3, .int .i64 a1_4, .int .i64 a1_5] 42 (0, 0))) ∧ (w'.heap[s_.2.2.2.2.2.2.2.2.2.2]? = some (.cells #[.int .i64 0, .int .i64 0, .slice none 0 0, .slice none 0 0] 30 (0, 0))) ∧ (w.heap.size ≤ s_.2.2.2.2.2.2.2.2.2.2) ∧ (w.heap.size ≤ s_.2.2.2.2.2.2.2.2.2.2) ∧ (gb747 ≠ s_.2.2.2.2.2.2.2.2.2.2) ∧ (s_.2.2.2.2.2.2.2.2.2.2 ≠ gb747) ∧ (gb748 ≠ s_.2.2.2.2.2.2.2.2.2.2) ∧ (s_.2.2.2.2.2.2.2.2.2.2 ≠ gb748) ∧ (Below w.heap.size w w')) ?_ ?_
        rotate_left
        ·intro hCont
         refine two_ (i := 1) (j := 8) (Ni := some 29) (Nj := some 6) (mB 11 7) (mB 11 261) rfl rfl rfl rfl (two_of HT_.out (by kernel_rfl)) (by decide) (by decide) (fun K hK => ?_) (fun K hK => ?_)
         ·skip
          refine goes_ Tryz.func10 (by kernel_rfl) rfl #[.agg #[.int .i64 a0_0, .int .i64 a0_1, .slice A0_2 l0_2.length c0_2, .slice A0_3 l0_3.length c0_3]] (by rfl) rfl rfl mA ?_
          with_reducible refine (laws_toBand.calls k a0_0 a0_1 _ _ l0_2 _ _ l0_3 t751 t752 t753 t756 _ ?side1 ?side2 ?side3 ?side4 A19.out).mono ?_
          (case side1 => exact cS (Kd.C_below HR0_2.out HB.out))
          (case side2 => exact HC0_2.out)
          (case side3 => exact cS (Kd.C_below HR0_3.out HB.out))
          (case side4 => exact HC0_3.out)
          rintro e w60 ⟨v754, v757, rfl, ho0, ho1, hb⟩
          refine ⟨_, rfl, ?_⟩
          obtain ⟨b755, HZ755, hz755⟩ := S_born ho0
          have HL755 := aM (show w.heap.size ≤ b755 from by rw [HZ755.out]; exact (below_size bS))
          obtain ⟨b758, HZ758, hz758⟩ := S_born ho1
          have HL758 := aM (show w.heap.size ≤ b758 from by rw [HZ758.out]; exact (below_size bS))
          have HO755 := aM (hz755)
          have HO758 := aM (hz758)
          replace BK747 := kB_ gb747 hb
          replace BK748 := kB_ gb748 hb
          replace HB := hB hb
          (try clear hb)
          (try clear hb2)
          (try clear hk)
          (try clear hi)
          (try clear ho0)
          (try clear ho1)
          refine hK.out _ _ (cx4 BK747 (cy6 BK748)) (fun hHeld => ?_)
          clear hK K
          refine norm_ (a' := ?_) ?_ ?_
          rotate_left
          ·show Act.put _ (some 29) _ = _
           simp only [Act.put, List.setIfInBounds_toArray, List.set_cons_zero, List.set_cons_succ, i64_w, i32_w]
           rfl
          refine two_ (i := 3) (j := 8) (Ni := some 31) (Nj := some 6) (mB 11 15) (mB 11 263) rfl rfl rfl rfl (two_of HT_.out (by kernel_rfl)) (by decide) (by decide) (fun K hK => ?_) (fun K hK => ?_)
          ·skip
           refine goes_ Tryz.func22 (by kernel_rfl) rfl #[.agg #[.slice A1_0 l1_0.length c1_0, .int .i64 a1_1, .int .i64 a1_2, .int .i64 a1_3, .int .i64 a1_4, .int .i64 a1_5]] (by rfl) rfl rfl mA ?_
           with_reducible refine (laws_toObject.calls k _ _ l1_0 a1_1 a1_2 a1_3 a1_4 a1_5 t759 t762 t763 t764 t765 t766 _ ?side1 ?side2 A20.out).mono ?_
           (case side1 => exact cS (Kd.C_below HR1_0.out HB.out))
           (case side2 => exact HC1_0.out)
           rintro e w61 ⟨v760, rfl, ho0, hb⟩
           refine ⟨_, rfl, ?_⟩
           obtain ⟨b761, HZ761, hz761⟩ := R_born ho0
           have HL761 := aM (show w.heap.size ≤ b761 from by rw [HZ761.out]; exact (below_size bS))
           have HO761 := aM (hz761)
           replace HO755 := aM (S_oldB (sS HO755) hb HZ761.out)
           replace HO758 := aM (S_oldB (sS HO758) hb HZ761.out)
           replace BK747 := kB_ gb747 hb
           replace BK748 := kB_ gb748 hb
           replace HB := hB hb
           (try clear hb)
           (try clear hb2)
           (try clear hk)
           (try clear hi)
           (try clear ho0)
           obtain ⟨Ao62, co62, eo62⟩ := Kd.S_slice HO755.out
           (first | subst eo62 | obtain ⟨rfl, rfl⟩ := slE eo62)
           obtain ⟨Ao63, co63, eo63⟩ := Kd.S_slice HO758.out
           (first | subst eo63 | obtain ⟨rfl, rfl⟩ := slE eo63)
           obtain ⟨Ao64, co64, eo64⟩ := Kd.R_slice HO761.out
           (first | subst eo64 | obtain ⟨rfl, rfl⟩ := slE eo64)
           refine hK.out _ _ (cx4 BK747 (cy6 BK748)) (fun hHeld => ?_)
           clear hK K
           refine norm_ (a' := ?_) ?_ ?_
           rotate_left
           ·show Act.put _ (some 31) _ = _
            simp only [Act.put, List.setIfInBounds_toArray, List.set_cons_zero, List.set_cons_succ, i64_w, i32_w]
            rfl
           refine two_ (i := 4) (j := 8) (Ni := some 32) (Nj := some 6) (mB 11 31) (mB 11 271) rfl rfl rfl rfl (two_of HT_.out (by kernel_rfl)) (by decide) (by decide) (fun K hK => ?_) (fun K hK => ?_)
           ·skip
            refine goes_ Tryz.func21 (by kernel_rfl) rfl #[.agg #[.int .i64 t751, .int .i64 t752, .slice Ao62 t753.length co62, .slice Ao63 t756.length co63], .agg #[.slice Ao64 t759.length co64, .int .i64 t762, .int .i64 t763, .int .i64 t764, .int .i64 t765, .int .i64 t766]] (by rfl) rfl rfl mA ?_
            with_reducible refine (spec_AddToBand.calls k t751 t752 _ _ t753 _ _ t756 _ _ t759 t762 t763 t764 t765 t766 t767 t768 t769 t772 t775 _ ?side1 ?side2 ?side3 ?side4 ?side5 ?side6 A21.out).mono ?_
            (case side1 => exact cS (Kd.S_reads' HO755.out).2.2)
            (case side2 => exact (Kd.S_reads' HO755.out).2.1)
            (case side3 => exact cS (Kd.S_reads' HO758.out).2.2)
            (case side4 => exact (Kd.S_reads' HO758.out).2.1)
            (case side5 => exact cS (Kd.R_reads' HO761.out).2.2)
            (case side6 => exact (Kd.R_reads' HO761.out).2.1)
            rintro e w65 ⟨v770, v773, rfl, ho0, ho1, hb⟩
            refine ⟨_, rfl, ?_⟩
            obtain ⟨b771, HZ771, hz771⟩ := S_born ho0
            have HL771 := aM (show w.heap.size ≤ b771 from by rw [HZ771.out]; exact (below_size bS))
            obtain ⟨b774, HZ774, hz774⟩ := S_born ho1
            have HL774 := aM (show w.heap.size ≤ b774 from by rw [HZ774.out]; exact (below_size bS))
            have HO771 := aM (hz771)
            have HO774 := aM (hz774)
            replace HO755 := aM (S_ltB (S_oldB (sS HO755) hb HZ771.out) HZ771.out HZ774.out)
            replace HO758 := aM (S_ltB (S_oldB (sS HO758) hb HZ771.out) HZ771.out HZ774.out)
            replace HO761 := aM (R_ltB (R_oldB (rS HO761) hb HZ771.out) HZ771.out HZ774.out)
            replace BK747 := kB_ gb747 hb
            replace BK748 := kB_ gb748 hb
            replace HB := hB hb
            (try clear hb)
            (try clear hb2)
            (try clear hk)
            (try clear hi)
            (try clear ho0)
            (try clear ho1)
            refine hK.out _ _ (cx4 BK747 (cy6 BK748)) (fun hHeld => ?_)
            clear hK K
            refine norm_ (a' := ?_) ?_ ?_
            rotate_left
            ·show Act.put _ (some 32) _ = _
             simp only [Act.put, List.setIfInBounds_toArray, List.set_cons_zero, List.set_cons_succ, i64_w, i32_w]
             rfl
            refine pU 5 (some 27) (mB 11 63) ?_
            refine pU 6 (some 33) (mB 11 127) ?_
            refine pU 7 (some 34) (mB 11 255) ?_
            refine one_ (i := 8) (N := some 6) (mB 11 511) rfl rfl (one_of HT_.out (by kernel_rfl)) (by decide) (fun K hK => ?_)
            refine box_step ?hg (N := 6) ?hd (cs := #[.int .i64 0, .int .i64 0, .slice none 0 0, .slice none 0 0]) (t := 30) ?hr ?_; (case hd => rfl); (case hg => rfl); (case hr => first | (go_simp; done) | (go_simp; rfl))
            intro gb776 hg w66 hbox hb
            have BK776 := aM (hbox)
            have GW776 := gE hg
            have GE776 := gE hg
            have NB747_776 := nL_ gb747 hg
            have NB776_747 := nG_ gb747 hg
            have NB748_776 := nL_ gb748 hg
            have NB776_748 := nG_ gb748 hg
            replace HO755 := sB HO755 hb
            replace HO758 := sB HO758 hb
            replace HO761 := aM (Kd.R_below (rS HO761) hb)
            replace HO771 := sB HO771 hb
            replace HO774 := sB HO774 hb
            replace BK747 := kB_ gb747 hb
            replace BK748 := kB_ gb748 hb
            replace HB := hB hb
            clear hb hg
            refine hK.out _ _ (cx4 BK747 (cy6 BK748)) (fun hHeld => ?_)
            clear hK K
            refine norm_ (a' := ?_) ?_ ?_
            rotate_left
            ·show Act.put _ (some 6) _ = _
             simp only [Act.put, List.setIfInBounds_toArray, List.set_cons_zero, List.set_cons_succ, i64_w, i32_w]
             rfl
            exact norm_ (by simp only [putAll, Act.put, List.setIfInBounds_toArray, List.set_cons_zero, List.set_cons_succ]) (hCont (.slice Ao62 t753.length co62, .slice Ao63 t756.length co63, b755, b758, .slice Ao64 t759.length co64, b761, v770, v773, b771, b774, gb776) _ ⟨hHeld, (by exact sM HO755), (by exact sM HO758), (by exact rM HO761), (sS HO771), (sS HO774), HL755.out, HL758.out, HL761.out, HL771.out, HL774.out, kS, kS, kS, GW776.out, GE776.out, NB747_776.out, NB776_747.out, NB748_776.out, NB776_748.out, bS⟩)
           ·skip
            refine box_step ?hg (N := 6) ?hd (cs := #[.int .i64 0, .int .i64 0, .slice none 0 0, .slice none 0 0]) (t := 30) ?hr ?_; (case hd => rfl); (case hg => rfl); (case hr => first | (go_simp; done) | (go_simp; rfl))
            intro gb776 hg w62 hbox hb
            have BK776 := aM (hbox)
            have GW776 := gE hg
            have GE776 := gE hg
            have NB747_776 := nL_ gb747 hg
            have NB776_747 := nG_ gb747 hg
            have NB748_776 := nL_ gb748 hg
            have NB776_748 := nG_ gb748 hg
            replace HO755 := sB HO755 hb
            replace HO758 := sB HO758 hb
            replace HO761 := aM (Kd.R_below (rS HO761) hb)
            replace BK747 := kB_ gb747 hb
            replace BK748 := kB_ gb748 hb
            replace HB := hB hb
            clear hb hg
            obtain ⟨Ao63, co63, eo63⟩ := Kd.S_slice HO755.out
            (first | subst eo63 | obtain ⟨rfl, rfl⟩ := slE eo63)
            obtain ⟨Ao64, co64, eo64⟩ := Kd.S_slice HO758.out
            (first | subst eo64 | obtain ⟨rfl, rfl⟩ := slE eo64)
            obtain ⟨Ao65, co65, eo65⟩ := Kd.R_slice HO761.out
            (first | subst eo65 | obtain ⟨rfl, rfl⟩ := slE eo65)
            refine hK.out _ _ (cx4 BK747 (cy6 BK748)) (fun hHeld => ?_)
            clear hK K
            refine norm_ (a' := ?_) ?_ ?_
            rotate_left
            ·show Act.put _ (some 6) _ = _
             simp only [Act.put, List.setIfInBounds_toArray, List.set_cons_zero, List.set_cons_succ, i64_w, i32_w]
             rfl
            refine one_ (i := 4) (N := some 32) (mB 11 287) rfl rfl (one_of HT_.out (by kernel_rfl)) (by decide) (fun K hK => ?_)
            refine goes_ Tryz.func21 (by kernel_rfl) rfl #[.agg #[.int .i64 t751, .int .i64 t752, .slice Ao63 t753.length co63, .slice Ao64 t756.length co64], .agg #[.slice Ao65 t759.length co65, .int .i64 t762, .int .i64 t763, .int .i64 t764, .int .i64 t765, .int .i64 t766]] (by rfl) rfl rfl mA ?_
            with_reducible refine (spec_AddToBand.calls k t751 t752 _ _ t753 _ _ t756 _ _ t759 t762 t763 t764 t765 t766 t767 t768 t769 t772 t775 _ ?side1 ?side2 ?side3 ?side4 ?side5 ?side6 A21.out).mono ?_
            (case side1 => exact cS (Kd.S_reads' HO755.out).2.2)
            (case side2 => exact (Kd.S_reads' HO755.out).2.1)
            (case side3 => exact cS (Kd.S_reads' HO758.out).2.2)
            (case side4 => exact (Kd.S_reads' HO758.out).2.1)
            (case side5 => exact cS (Kd.R_reads' HO761.out).2.2)
            (case side6 => exact (Kd.R_reads' HO761.out).2.1)
            rintro e w66 ⟨v770, v773, rfl, ho0, ho1, hb⟩
            refine ⟨_, rfl, ?_⟩
            obtain ⟨b771, HZ771, hz771⟩ := S_born ho0
            have HL771 := aM (show w.heap.size ≤ b771 from by rw [HZ771.out]; exact (below_size bS))
            obtain ⟨b774, HZ774, hz774⟩ := S_born ho1
            have HL774 := aM (show w.heap.size ≤ b774 from by rw [HZ774.out]; exact (below_size bS))
            have HO771 := aM (hz771)
            have HO774 := aM (hz774)
            replace HO755 := aM (S_ltB (S_oldB (sS HO755) hb HZ771.out) HZ771.out HZ774.out)
            replace HO758 := aM (S_ltB (S_oldB (sS HO758) hb HZ771.out) HZ771.out HZ774.out)
            replace HO761 := aM (R_ltB (R_oldB (rS HO761) hb HZ771.out) HZ771.out HZ774.out)
            replace BK747 := kB_ gb747 hb
            replace BK748 := kB_ gb748 hb
            replace BK776 := kB_ gb776 hb
            replace HB := hB hb
            (try clear hb)
            (try clear hb2)
            (try clear hk)
            (try clear hi)
            (try clear ho0)
            (try clear ho1)
            refine hK.out _ _ (cx4 BK747 (cy6 BK748)) (fun hHeld => ?_)
            clear hK K
            refine norm_ (a' := ?_) ?_ ?_
            rotate_left
            ·show Act.put _ (some 32) _ = _
             simp only [Act.put, List.setIfInBounds_toArray, List.set_cons_zero, List.set_cons_succ, i64_w, i32_w]
             rfl
            refine pU 5 (some 27) (mB 11 319) ?_
            refine pU 6 (some 33) (mB 11 383) ?_
            refine pU 7 (some 34) (mB 11 511) ?_
            exact norm_ (by simp only [putAll, Act.put, List.setIfInBounds_toArray, List.set_cons_zero, List.set_cons_succ]) (hCont (.slice Ao63 t753.length co63, .slice Ao64 t756.length co64, b755, b758, .slice Ao65 t759.length co65, b761, v770, v773, b771, b774, gb776) _ ⟨hHeld, (by exact sM HO755), (by exact sM HO758), (by exact rM HO761), (sS HO771), (sS HO774), HL755.out, HL758.out, HL761.out, HL771.out, HL774.out, kS, kS, kS, GW776.out, GE776.out, NB747_776.out, NB776_747.out, NB748_776.out, NB776_748.out, bS⟩)
          ·skip
           refine box_step ?hg (N := 6) ?hd (cs := #[.int .i64 0, .int .i64 0, .slice none 0 0, .slice none 0 0]) (t := 30) ?hr ?_; (case hd => rfl); (case hg => rfl); (case hr => first | (go_simp; done) | (go_simp; rfl))
           intro gb776 hg w61 hbox hb
           have BK776 := aM (hbox)
           have GW776 := gE hg
           have GE776 := gE hg
           have NB747_776 := nL_ gb747 hg
           have NB776_747 := nG_ gb747 hg
           have NB748_776 := nL_ gb748 hg
           have NB776_748 := nG_ gb748 hg
           replace HO755 := sB HO755 hb
           replace HO758 := sB HO758 hb
           replace BK747 := kB_ gb747 hb
           replace BK748 := kB_ gb748 hb
           replace HB := hB hb
           clear hb hg
           refine hK.out _ _ (cx4 BK747 (cy6 BK748)) (fun hHeld => ?_)
           clear hK K
           refine norm_ (a' := ?_) ?_ ?_
           rotate_left
           ·show Act.put _ (some 6) _ = _
            simp only [Act.put, List.setIfInBounds_toArray, List.set_cons_zero, List.set_cons_succ, i64_w, i32_w]
            rfl
           refine one_ (i := 3) (N := some 31) (mB 11 271) rfl rfl (one_of HT_.out (by kernel_rfl)) (by decide) (fun K hK => ?_)
           refine goes_ Tryz.func22 (by kernel_rfl) rfl #[.agg #[.slice A1_0 l1_0.length c1_0, .int .i64 a1_1, .int .i64 a1_2, .int .i64 a1_3, .int .i64 a1_4, .int .i64 a1_5]] (by rfl) rfl rfl mA ?_
           with_reducible refine (laws_toObject.calls k _ _ l1_0 a1_1 a1_2 a1_3 a1_4 a1_5 t759 t762 t763 t764 t765 t766 _ ?side1 ?side2 A20.out).mono ?_
           (case side1 => exact cS (Kd.C_below HR1_0.out HB.out))
           (case side2 => exact HC1_0.out)
           rintro e w62 ⟨v760, rfl, ho0, hb⟩
           refine ⟨_, rfl, ?_⟩
           obtain ⟨b761, HZ761, hz761⟩ := R_born ho0
           have HL761 := aM (show w.heap.size ≤ b761 from by rw [HZ761.out]; exact (below_size bS))
           have HO761 := aM (hz761)
           replace HO755 := aM (S_oldB (sS HO755) hb HZ761.out)
           replace HO758 := aM (S_oldB (sS HO758) hb HZ761.out)
           replace BK747 := kB_ gb747 hb
           replace BK748 := kB_ gb748 hb
           replace BK776 := kB_ gb776 hb
           replace HB := hB hb
           (try clear hb)
           (try clear hb2)
           (try clear hk)
           (try clear hi)
           (try clear ho0)
           obtain ⟨Ao63, co63, eo63⟩ := Kd.S_slice HO755.out
           (first | subst eo63 | obtain ⟨rfl, rfl⟩ := slE eo63)
           obtain ⟨Ao64, co64, eo64⟩ := Kd.S_slice HO758.out
           (first | subst eo64 | obtain ⟨rfl, rfl⟩ := slE eo64)
           obtain ⟨Ao65, co65, eo65⟩ := Kd.R_slice HO761.out
           (first | subst eo65 | obtain ⟨rfl, rfl⟩ := slE eo65)
           refine hK.out _ _ (cx4 BK747 (cy6 BK748)) (fun hHeld => ?_)
           clear hK K
           refine norm_ (a' := ?_) ?_ ?_
           rotate_left
           ·show Act.put _ (some 31) _ = _
            simp only [Act.put, List.setIfInBounds_toArray, List.set_cons_zero, List.set_cons_succ, i64_w, i32_w]
            rfl
           refine one_ (i := 4) (N := some 32) (mB 11 287) rfl rfl (one_of HT_.out (by kernel_rfl)) (by decide) (fun K hK => ?_)
           refine goes_ Tryz.func21 (by kernel_rfl) rfl #[.agg #[.int .i64 t751, .int .i64 t752, .slice Ao63 t753.length co63, .slice Ao64 t756.length co64], .agg #[.slice Ao65 t759.length co65, .int .i64 t762, .int .i64 t763, .int .i64 t764, .int .i64 t765, .int .i64 t766]] (by rfl) rfl rfl mA ?_
           with_reducible refine (spec_AddToBand.calls k t751 t752 _ _ t753 _ _ t756 _ _ t759 t762 t763 t764 t765 t766 t767 t768 t769 t772 t775 _ ?side1 ?side2 ?side3 ?side4 ?side5 ?side6 A21.out).mono ?_
           (case side1 => exact cS (Kd.S_reads' HO755.out).2.2)
           (case side2 => exact (Kd.S_reads' HO755.out).2.1)
           (case side3 => exact cS (Kd.S_reads' HO758.out).2.2)
           (case side4 => exact (Kd.S_reads' HO758.out).2.1)
           (case side5 => exact cS (Kd.R_reads' HO761.out).2.2)
           (case side6 => exact (Kd.R_reads' HO761.out).2.1)
           rintro e w66 ⟨v770, v773, rfl, ho0, ho1, hb⟩
           refine ⟨_, rfl, ?_⟩
           obtain ⟨b771, HZ771, hz771⟩ := S_born ho0
           have HL771 := aM (show w.heap.size ≤ b771 from by rw [HZ771.out]; exact (below_size bS))
           obtain ⟨b774, HZ774, hz774⟩ := S_born ho1
           have HL774 := aM (show w.heap.size ≤ b774 from by rw [HZ774.out]; exact (below_size bS))
           have HO771 := aM (hz771)
           have HO774 := aM (hz774)
           replace HO755 := aM (S_ltB (S_oldB (sS HO755) hb HZ771.out) HZ771.out HZ774.out)
           replace HO758 := aM (S_ltB (S_oldB (sS HO758) hb HZ771.out) HZ771.out HZ774.out)
           replace HO761 := aM (R_ltB (R_oldB (rS HO761) hb HZ771.out) HZ771.out HZ774.out)
           replace BK747 := kB_ gb747 hb
           replace BK748 := kB_ gb748 hb
           replace BK776 := kB_ gb776 hb
           replace HB := hB hb
           (try clear hb)
           (try clear hb2)
           (try clear hk)
           (try clear hi)
           (try clear ho0)
           (try clear ho1)
           refine hK.out _ _ (cx4 BK747 (cy6 BK748)) (fun hHeld => ?_)
           clear hK K
           refine norm_ (a' := ?_) ?_ ?_
           rotate_left
           ·show Act.put _ (some 32) _ = _
            simp only [Act.put, List.setIfInBounds_toArray, List.set_cons_zero, List.set_cons_succ, i64_w, i32_w]
            rfl
           refine pU 5 (some 27) (mB 11 319) ?_
           refine pU 6 (some 33) (mB 11 383) ?_
           refine pU 7 (some 34) (mB 11 511) ?_
           exact norm_ (by simp only [putAll, Act.put, List.setIfInBounds_toArray, List.set_cons_zero, List.set_cons_succ]) (hCont (.slice Ao63 t753.length co63, .slice Ao64 t756.length co64, b755, b758, .slice Ao65 t759.length co65, b761, v770, v773, b771, b774, gb776) _ ⟨hHeld, (by exact sM HO755), (by exact sM HO758), (by exact rM HO761), (sS HO771), (sS HO774), HL755.out, HL758.out, HL761.out, HL771.out, HL774.out, kS, kS, kS, GW776.out, GE776.out, NB747_776.out, NB776_747.out, NB748_776.out, NB776_748.out, bS⟩)
         ·skip
          refine box_step ?hg (N := 6) ?hd (cs := #[.int .i64 0, .int .i64 0, .slice none 0 0, .slice none 0 0]) (t := 30) ?hr ?_; (case hd => rfl); (case hg => rfl); (case hr => first | (go_simp; done) | (go_simp; rfl))
          intro gb776 hg w60 hbox hb
          have BK776 := aM (hbox)
          have GW776 := gE hg
          have GE776 := gE hg
          have NB747_776 := nL_ gb747 hg
          have NB776_747 := nG_ gb747 hg
          have NB748_776 := nL_ gb748 hg
          have NB776_748 := nG_ gb748 hg
          replace BK747 := kB_ gb747 hb
          replace BK748 := kB_ gb748 hb
          replace HB := hB hb
          clear hb hg
          refine hK.out _ _ (cx4 BK747 (cy6 BK748)) (fun hHeld => ?_)
          clear hK K
          refine norm_ (a' := ?_) ?_ ?_
          rotate_left
          ·show Act.put _ (some 6) _ = _
           simp only [Act.put, List.setIfInBounds_toArray, List.set_cons_zero, List.set_cons_succ, i64_w, i32_w]
           rfl
          refine one_ (i := 1) (N := some 29) (mB 11 263) rfl rfl (one_of HT_.out (by kernel_rfl)) (by decide) (fun K hK => ?_)
          refine goes_ Tryz.func10 (by kernel_rfl) rfl #[.agg #[.int .i64 a0_0, .int .i64 a0_1, .slice A0_2 l0_2.length c0_2, .slice A0_3 l0_3.length c0_3]] (by rfl) rfl rfl mA ?_
          with_reducible refine (laws_toBand.calls k a0_0 a0_1 _ _ l0_2 _ _ l0_3 t751 t752 t753 t756 _ ?side1 ?side2 ?side3 ?side4 A19.out).mono ?_
          (case side1 => exact cS (Kd.C_below HR0_2.out HB.out))
          (case side2 => exact HC0_2.out)
          (case side3 => exact cS (Kd.C_below HR0_3.out HB.out))
          (case side4 => exact HC0_3.out)
          rintro e w61 ⟨v754, v757, rfl, ho0, ho1, hb⟩
          refine ⟨_, rfl, ?_⟩
          obtain ⟨b755, HZ755, hz755⟩ := S_born ho0
          have HL755 := aM (show w.heap.size ≤ b755 from by rw [HZ755.out]; exact (below_size bS))
          obtain ⟨b758, HZ758, hz758⟩ := S_born ho1
          have HL758 := aM (show w.heap.size ≤ b758 from by rw [HZ758.out]; exact (below_size bS))
          have HO755 := aM (hz755)
          have HO758 := aM (hz758)
          replace BK747 := kB_ gb747 hb
          replace BK748 := kB_ gb748 hb
          replace BK776 := kB_ gb776 hb
          replace HB := hB hb
          (try clear hb)
          (try clear hb2)
          (try clear hk)
          (try clear hi)
          (try clear ho0)
          (try clear ho1)
          refine hK.out _ _ (cx4 BK747 (cy6 BK748)) (fun hHeld => ?_)
          clear hK K
          refine norm_ (a' := ?_) ?_ ?_
          rotate_left
          ·show Act.put _ (some 29) _ = _
           simp only [Act.put, List.setIfInBounds_toArray, List.set_cons_zero, List.set_cons_succ, i64_w, i32_w]
           rfl
          refine one_ (i := 3) (N := some 31) (mB 11 271) rfl rfl (one_of HT_.out (by kernel_rfl)) (by decide) (fun K hK => ?_)
          refine goes_ Tryz.func22 (by kernel_rfl) rfl #[.agg #[.slice A1_0 l1_0.length c1_0, .int .i64 a1_1, .int .i64 a1_2, .int .i64 a1_3, .int .i64 a1_4, .int .i64 a1_5]] (by rfl) rfl rfl mA ?_
          with_reducible refine (laws_toObject.calls k _ _ l1_0 a1_1 a1_2 a1_3 a1_4 a1_5 t759 t762 t763 t764 t765 t766 _ ?side1 ?side2 A20.out).mono ?_
          (case side1 => exact cS (Kd.C_below HR1_0.out HB.out))
          (case side2 => exact HC1_0.out)
          rintro e w62 ⟨v760, rfl, ho0, hb⟩
          refine ⟨_, rfl, ?_⟩
          obtain ⟨b761, HZ761, hz761⟩ := R_born ho0
          have HL761 := aM (show w.heap.size ≤ b761 from by rw [HZ761.out]; exact (below_size bS))
          have HO761 := aM (hz761)
          replace HO755 := aM (S_oldB (sS HO755) hb HZ761.out)
          replace HO758 := aM (S_oldB (sS HO758) hb HZ761.out)
          replace BK747 := kB_ gb747 hb
          replace BK748 := kB_ gb748 hb
          replace BK776 := kB_ gb776 hb
          replace HB := hB hb
          (try clear hb)
          (try clear hb2)
          (try clear hk)
          (try clear hi)
          (try clear ho0)
          obtain ⟨Ao63, co63, eo63⟩ := Kd.S_slice HO755.out
          (first | subst eo63 | obtain ⟨rfl, rfl⟩ := slE eo63)
          obtain ⟨Ao64, co64, eo64⟩ := Kd.S_slice HO758.out
          (first | subst eo64 | obtain ⟨rfl, rfl⟩ := slE eo64)
          obtain ⟨Ao65, co65, eo65⟩ := Kd.R_slice HO761.out
          (first | subst eo65 | obtain ⟨rfl, rfl⟩ := slE eo65)
          refine hK.out _ _ (cx4 BK747 (cy6 BK748)) (fun hHeld => ?_)
          clear hK K
          refine norm_ (a' := ?_) ?_ ?_
          rotate_left
          ·show Act.put _ (some 31) _ = _
           simp only [Act.put, List.setIfInBounds_toArray, List.set_cons_zero, List.set_cons_succ, i64_w, i32_w]
           rfl
          refine one_ (i := 4) (N := some 32) (mB 11 287) rfl rfl (one_of HT_.out (by kernel_rfl)) (by decide) (fun K hK => ?_)
          refine goes_ Tryz.func21 (by kernel_rfl) rfl #[.agg #[.int .i64 t751, .int .i64 t752, .slice Ao63 t753.length co63, .slice Ao64 t756.length co64], .agg #[.slice Ao65 t759.length co65, .int .i64 t762, .int .i64 t763, .int .i64 t764, .int .i64 t765, .int .i64 t766]] (by rfl) rfl rfl mA ?_
          with_reducible refine (spec_AddToBand.calls k t751 t752 _ _ t753 _ _ t756 _ _ t759 t762 t763 t764 t765 t766 t767 t768 t769 t772 t775 _ ?side1 ?side2 ?side3 ?side4 ?side5 ?side6 A21.out).mono ?_
          (case side1 => exact cS (Kd.S_reads' HO755.out).2.2)
          (case side2 => exact (Kd.S_reads' HO755.out).2.1)
          (case side3 => exact cS (Kd.S_reads' HO758.out).2.2)
          (case side4 => exact (Kd.S_reads' HO758.out).2.1)
          (case side5 => exact cS (Kd.R_reads' HO761.out).2.2)
          (case side6 => exact (Kd.R_reads' HO761.out).2.1)
          rintro e w66 ⟨v770, v773, rfl, ho0, ho1, hb⟩
          refine ⟨_, rfl, ?_⟩
          obtain ⟨b771, HZ771, hz771⟩ := S_born ho0
          have HL771 := aM (show w.heap.size ≤ b771 from by rw [HZ771.out]; exact (below_size bS))
          obtain ⟨b774, HZ774, hz774⟩ := S_born ho1
          have HL774 := aM (show w.heap.size ≤ b774 from by rw [HZ774.out]; exact (below_size bS))
          have HO771 := aM (hz771)
          have HO774 := aM (hz774)
          replace HO755 := aM (S_ltB (S_oldB (sS HO755) hb HZ771.out) HZ771.out HZ774.out)
          replace HO758 := aM (S_ltB (S_oldB (sS HO758) hb HZ771.out) HZ771.out HZ774.out)
          replace HO761 := aM (R_ltB (R_oldB (rS HO761) hb HZ771.out) HZ771.out HZ774.out)
          replace BK747 := kB_ gb747 hb
          replace BK748 := kB_ gb748 hb
          replace BK776 := kB_ gb776 hb
          replace HB := hB hb
          (try clear hb)
          (try clear hb2)
          (try clear hk)
          (try clear hi)
          (try clear ho0)
          (try clear ho1)
          refine hK.out _ _ (cx4 BK747 (cy6 BK748)) (fun hHeld => ?_)
          clear hK K
          refine norm_ (a' := ?_) ?_ ?_
          rotate_left
          ·show Act.put _ (some 32) _ = _
           simp only [Act.put, List.setIfInBounds_toArray, List.set_cons_zero, List.set_cons_succ, i64_w, i32_w]
           rfl
          refine pU 5 (some 27) (mB 11 319) ?_
          refine pU 6 (some 33) (mB 11 383) ?_
          refine pU 7 (some 34) (mB 11 511) ?_
          exact norm_ (by simp only [putAll, Act.put, List.setIfInBounds_toArray, List.set_cons_zero, List.set_cons_succ]) (hCont (.slice Ao63 t753.length co63, .slice Ao64 t756.length co64, b755, b758, .slice Ao65 t759.length co65, b761, v770, v773, b771, b774, gb776) _ ⟨hHeld, (by exact sM HO755), (by exact sM HO758), (by exact rM HO761), (sS HO771), (sS HO774), HL755.out, HL758.out, HL761.out, HL771.out, HL774.out, kS, kS, kS, GW776.out, GE776.out, NB747_776.out, NB776_747.out, NB748_776.out, NB776_748.out, bS⟩)
        rintro ⟨v754, v757, b755, b758, v760, b761, v770, v773, b771, b774, gb776⟩ w67 ⟨hS_, h0_, h1_, h2_, h3_, h4_, h5_, h6_, h7_, h8_, h9_, h10_, h11_, h12_, h13_, h14_, h15_, h16_, h17_, h18_, h19_⟩
        have HO755 : Aside0 (Kd.S (Kd.slice 3 (Kd.int .i64)) 54 w67 b755 (fun k_ => k_ < b761 ∧ k_ < b771 ∧ k_ < b774) v754 t753) := ⟨h0_⟩
        have HO758 : Aside0 (Kd.S k49 49 w67 b758 (fun k_ => k_ < b761 ∧ k_ < b771 ∧ k_ < b774) v757 t756) := ⟨h1_⟩
        have HO761 : Aside0 (Kd.R k151 151 w67 b761 (fun k_ => k_ < b771 ∧ k_ < b774) v760 t759) := ⟨h2_⟩
        have HO771 : Aside0 (Kd.S (Kd.slice 3 (Kd.int .i64)) 54 w67 b771 (fun _ => True) v770 t769) := ⟨h3_⟩
        have HO774 : Aside0 (Kd.S k49 49 w67 b774 (fun _ => True) v773 t772) := ⟨h4_⟩
        have HL755 : Aside0 (w.heap.size ≤ b755) := ⟨h5_⟩
        have HL758 : Aside0 (w.heap.size ≤ b758) := ⟨h6_⟩
        have HL761 : Aside0 (w.heap.size ≤ b761) := ⟨h7_⟩
        have HL771 : Aside0 (w.heap.size ≤ b771) := ⟨h8_⟩
        have HL774 : Aside0 (w.heap.size ≤ b774) := ⟨h9_⟩
        have BK776 : Aside0 (w67.heap[gb776]? = some (.cells #[.int .i64 0, .int .i64 0, .slice none 0 0, .slice none 0 0] 30 (0, 0))) := ⟨h12_⟩
        have GW776 : Aside0 (w.heap.size ≤ gb776) := ⟨h13_⟩
        have GE776 : Aside0 (w.heap.size ≤ gb776) := ⟨h14_⟩
        have NB747_776 : Aside0 (gb747 ≠ gb776) := ⟨h15_⟩
        have NB776_747 : Aside0 (gb776 ≠ gb747) := ⟨h16_⟩
        have NB748_776 : Aside0 (gb748 ≠ gb776) := ⟨h17_⟩
        have NB776_748 : Aside0 (gb776 ≠ gb748) := ⟨h18_⟩
        replace BK747 : Aside0 (w67.heap[gb747]? = some (.cells #[.int .i64 a0_0, .int .i64 a0_1, .slice A0_2 l0_2.length c0_2, .slice A0_3 l0_3.length c0_3] 25 (0, 0))) := ⟨h10_⟩
        replace BK748 : Aside0 (w67.heap[gb748]? = some (.cells #[.slice A1_0 l1_0.length c1_0, .int .i64 a1_1, .int .i64 a1_2, .int .i64 a1_3, .int .i64 a1_4, .int .i64 a1_5] 42 (0, 0))) := ⟨h11_⟩
        replace HB : Aside0 (Below w.heap.size w w67) := ⟨h19_⟩
        clear h0_ h1_ h2_ h3_ h4_ h5_ h6_ h7_ h8_ h9_ h10_ h11_ h12_ h13_ h14_ h15_ h16_ h17_ h18_ h19_
        have hHeld : w67.cell? ⟨gb747, 0, none⟩ = some (.int .i64 a0_0) ∧ w67.cell? ⟨gb747, 1, none⟩ = some (.int .i64 a0_1) ∧ w67.cell? ⟨gb747, 2, none⟩ = some (.slice A0_2 l0_2.length c0_2) ∧ w67.cell? ⟨gb747, 3, none⟩ = some (.slice A0_3 l0_3.length c0_3) ∧ w67.cell? ⟨gb748, 0, none⟩ = some (.slice A1_0 l1_0.length c1_0) ∧ w67.cell? ⟨gb748, 1, none⟩ = some (.int .i64 a1_1) ∧ w67.cell? ⟨gb748, 2, none⟩ = some (.int .i64 a1_2) ∧ w67.cell? ⟨gb748, 3, none⟩ = some (.int .i64 a1_3) ∧ w67.cell? ⟨gb748, 4, none⟩ = some (.int .i64 a1_4) ∧ w67.cell? ⟨gb748, 5, none⟩ = some (.int .i64 a1_5) := hS_
        obtain ⟨Ao70, co70, eo70⟩ := Kd.S_slice HO771.out
        (first | subst eo70 | obtain ⟨rfl, rfl⟩ := slE eo70)
        obtain ⟨Ao72, co72, eo72⟩ := Kd.S_slice HO774.out
        (first | subst eo72 | obtain ⟨rfl, rfl⟩ := slE eo72)
        refine norm_ (a' := ?_) ?_ ?_
        rotate_left
        ·simp only [putAll, Act.put, List.setIfInBounds_toArray, List.set_cons_zero, List.set_cons_succ]
         rfl
        refine one_ (i := 9) (N := none) (mB 11 1023) rfl rfl (one_of HT_.out (by kernel_rfl)) (by decide) (fun K hK => ?_)
        have hs68 := cg0 BK776
        have hfs68 := blk_frozen BK776.out 0
        have hns68_0 := NB747_776.out
        have hns68_1 := NB748_776.out
        have hms68_0 := NB776_747.out
        have hms68_1 := NB776_748.out
        have hs69 := cg1 BK776
        have hfs69 := blk_frozen BK776.out 1
        have hns69_0 := NB747_776.out
        have hns69_1 := NB748_776.out
        have hms69_0 := NB776_747.out
        have hms69_1 := NB776_748.out
        have hs71 := cg2 BK776
        have hfs71 := blk_frozen BK776.out 2
        have hns71_0 := NB747_776.out
        have hns71_1 := NB748_776.out
        have hms71_0 := NB776_747.out
        have hms71_1 := NB776_748.out
        have hs73 := cg3 BK776
        have hfs73 := blk_frozen BK776.out 3
        have hns73_0 := NB747_776.out
        have hns73_1 := NB748_776.out
        have hms73_0 := NB776_747.out
        have hms73_1 := NB776_748.out
        refine skip_ (w1 := ?_) (by rfl) rfl ?_ ?_
        rotate_left
        ·go_simp
         rfl
        refine hK.out _ _ ⟨(cF NB747_776 hHeld.1), (cF NB747_776 hHeld.2.1), (cF NB747_776 hHeld.2.2.1), (cF NB747_776 hHeld.2.2.2.1), (cF NB748_776 hHeld.2.2.2.2.1), (cF NB748_776 hHeld.2.2.2.2.2.1), (cF NB748_776 hHeld.2.2.2.2.2.2.1), (cF NB748_776 hHeld.2.2.2.2.2.2.2.1), (cF NB748_776 hHeld.2.2.2.2.2.2.2.2.1), (cF NB748_776 hHeld.2.2.2.2.2.2.2.2.2)⟩ (fun hHeld => ?_)
        clear hK K
        refine pU 10 (some 7) (mB 11 2047) ?_
        refine done_ (done_of HT_.out (by kernel_rfl)) ?_
        have hnb74 := NB747_776.out
        have hnc74 := NB776_747.out
        have hz75 := cz4 BK747
        try go_wp2_with (first | ((with_reducible refine gC 10 ?_); refine cM (some 36) Tryz.func10 (laws_toBand.calls k a0_0 a0_1 _ _ l0_2 _ _ l0_3 t777 t778 t779 t782 _ (Kd.C_below HR0_2.out bS) HC0_2.out (Kd.C_below HR0_3.out bS) HC0_3.out A22.out) ?_; rintro e w76 ⟨v780, v783, rfl, ho0, ho1, hb⟩; refine ⟨_, rfl, ?_⟩; obtain ⟨b781, HZ781, hz781⟩ := S_born ho0; have HL781 := aM (show w.heap.size ≤ b781 from by rw [HZ781.out]; exact (below_size bS)); obtain ⟨b784, HZ784, hz784⟩ := S_born ho1; have HL784 := aM (show w.heap.size ≤ b784 from by rw [HZ784.out]; exact (below_size bS)); have HO781 := aM (hz781); have HO784 := aM (hz784); replace HO755 := aM (S_ltB (S_oldB (by exact sG HO755 BK776) hb HZ781.out) HZ781.out HZ784.out); replace HO758 := aM (S_ltB (S_oldB (by exact sG HO758 BK776) hb HZ781.out) HZ781.out HZ784.out); replace HO761 := aM (R_ltB (R_oldB (by exact rG HO761 BK776) hb HZ781.out) HZ781.out HZ784.out); replace HO771 := aM (S_ltB (S_oldB (by exact sG HO771 BK776) hb HZ781.out) HZ781.out HZ784.out); replace HO774 := aM (S_ltB (S_oldB (by exact sG HO774 BK776) hb HZ781.out) HZ781.out HZ784.out); replace BK747 := kB_ gb747 hb; replace BK748 := kB_ gb748 hb; replace BK776 := kO gb776 #[.int .i64 t767, .int .i64 t768, .slice Ao70 t769.length co70, .slice Ao72 t772.length co72] 30 hb; replace HB := hB hb; (try clear hb hk ho0 ho1)) | ((with_reducible refine gD 8 ?_); refine bxE #[.int .i64 0, .int .i64 0, .slice none 0 0, .slice none 0 0] 30 ?_; intro gb785 hg w77 BK785 hb; have GW785 := gE hg; have GE785 := gE hg; have NB747_785 := nL_ gb747 hg; have NB785_747 := nG_ gb747 hg; have NB748_785 := nL_ gb748 hg; have NB785_748 := nG_ gb748 hg; have NB776_785 := nL_ gb776 hg; have NB785_776 := nG_ gb776 hg; replace HO755 := sB HO755 hb; replace HO758 := sB HO758 hb; replace HO761 := aM (Kd.R_below (rS HO761) hb); replace HO771 := sB HO771 hb; replace HO774 := sB HO774 hb; replace HO781 := sB HO781 hb; replace HO784 := sB HO784 hb; replace BK747 := kB_ gb747 hb; replace BK748 := kB_ gb748 hb; replace BK776 := kB_ gb776 hb; replace HB := hB hb; clear hb hg; have hnb78 := NB785_747.out; have hnc78 := NB747_785.out; have hnb79 := NB785_748.out; have hnc79 := NB748_785.out; have hnb80 := NB785_776.out; have hnc80 := NB776_785.out; have hz81 := cz4 BK785; obtain ⟨Ao82, co82, eo82⟩ := Kd.S_slice HO781.out; subst eo82; obtain ⟨Ao83, co83, eo83⟩ := Kd.S_slice HO784.out; subst eo83; have hnb84 := NB748_776.out; have hnc84 := NB776_748.out; have hz85 := cz6 BK748) | ((with_reducible refine gC 22 ?_); refine cM (some 38) Tryz.func22 (laws_toObject.calls k _ _ l1_0 a1_1 a1_2 a1_3 a1_4 a1_5 t786 t789 t790 t791 t792 t793 _ (Kd.C_below HR1_0.out bS) HC1_0.out A23.out) ?_; rintro e w86 ⟨v787, rfl, ho0, hb⟩; refine ⟨_, rfl, ?_⟩; obtain ⟨b788, HZ788, hz788⟩ := R_born ho0; have HL788 := aM (show w.heap.size ≤ b788 from by rw [HZ788.out]; exact (below_size bS)); have HO788 := aM (hz788); replace HO755 := aM (S_oldB (by exact sG HO755 BK785) hb HZ788.out); replace HO758 := aM (S_oldB (by exact sG HO758 BK785) hb HZ788.out); replace HO761 := aM (R_oldB (by exact rG HO761 BK785) hb HZ788.out); replace HO771 := aM (S_oldB (by exact sG HO771 BK785) hb HZ788.out); replace HO774 := aM (S_oldB (by exact sG HO774 BK785) hb HZ788.out); replace HO781 := aM (S_oldB (by exact sG HO781 BK785) hb HZ788.out); replace HO784 := aM (S_oldB (by exact sG HO784 BK785) hb HZ788.out); replace BK747 := kB_ gb747 hb; replace BK748 := kB_ gb748 hb; replace BK776 := kB_ gb776 hb; replace BK785 := kO gb785 #[.int .i64 t777, .int .i64 t778, .slice Ao82 t779.length co82, .slice Ao83 t782.length co83] 30 hb; replace HB := hB hb; (try clear hb hk ho0)) | ((with_reducible refine gD 9 ?_); refine bxE #[.slice none 0 0, .int .i64 0, .int .i64 0, .int .i64 0, .int .i64 0, .int .i64 0] 49 ?_; intro gb794 hg w87 BK794 hb; have GW794 := gE hg; have GE794 := gE hg; have NB747_794 := nL_ gb747 hg; have NB794_747 := nG_ gb747 hg; have NB748_794 := nL_ gb748 hg; have NB794_748 := nG_ gb748 hg; have NB776_794 := nL_ gb776 hg; have NB794_776 := nG_ gb776 hg; have NB785_794 := nL_ gb785 hg; have NB794_785 := nG_ gb785 hg; replace HO755 := sB HO755 hb; replace HO758 := aM (Kd.S_below (Kd.S_elderB (sS HO758) gb794 (Nat.le_of_eq hg.symm)) hb); replace HO761 := aM (Kd.R_below (rS HO761) hb); replace HO771 := sB HO771 hb; replace HO774 := aM (Kd.S_below (Kd.S_elderB (sS HO774) gb794 (Nat.le_of_eq hg.symm)) hb); replace HO781 := sB HO781 hb; replace HO784 := aM (Kd.S_below (Kd.S_elderB (sS HO784) gb794 (Nat.le_of_eq hg.symm)) hb); replace HO788 := aM (Kd.R_below (rS HO788) hb); replace BK747 := kB_ gb747 hb; replace BK748 := kB_ gb748 hb; replace BK776 := kB_ gb776 hb; replace BK785 := kB_ gb785 hb; replace HB := hB hb; clear hb hg; obtain ⟨Ao88, co88, eo88⟩ := Kd.R_slice HO788.out; subst eo88; have hnb89 := NB794_747.out; have hnc89 := NB747_794.out; have hnb90 := NB794_748.out; have hnc90 := NB748_794.out; have hnb91 := NB794_776.out; have hnc91 := NB776_794.out; have hnb92 := NB794_785.out; have hnc92 := NB785_794.out; have hz93 := cz6 BK794; have hz94 := cz4 BK785) | ((with_reducible refine gC 23 ?_); refine cL (some 42) Tryz.func23 #[.agg #[.int .i64 t777, .int .i64 t778, .slice Ao82 t779.length co82, .slice Ao83 t782.length co83], .agg #[.slice Ao88 t786.length co88, .int .i64 t789, .int .i64 t790, .int .i64 t791, .int .i64 t792, .int .i64 t793]] ?_; (with_reducible refine (impl_AddToBand.calls k t777 t778 _ _ t779 _ _ t782 _ _ t786 t789 t790 t791 t792 t793 t795 t796 t797 t800 t803 _ ?side1 ?side2 ?side3 ?side4 ?side5 ?side6 A24.out).mono ?_); (case side1 => exact (Kd.S_reads' (e := 54) (n := t779.length) (c := co82) (by exact sG HO781 BK794)).2.2); (case side2 => exact (Kd.S_reads' HO781.out).2.1); (case side3 => exact (Kd.S_reads' (e := 49) (n := t782.length) (c := co83) (by exact sT (Kd.S_mono (Kd.S_far (p := ⟨gb794, 5, none⟩) (Kd.S_far (p := ⟨gb794, 4, none⟩) (Kd.S_far (p := ⟨gb794, 3, none⟩) (Kd.S_far (p := ⟨gb794, 2, none⟩) (Kd.S_far (p := ⟨gb794, 1, none⟩) (Kd.S_far (p := ⟨gb794, 0, none⟩) (Kd.S_mono HO784.out (fun k_ hk => (⟨hk, hk.2⟩ : _ ∧ k_ ≠ gb794))) (fun _ hk => hk.2) (.slice Ao88 t786.length co88)) (fun _ hk => hk.2) (.int .i64 t789)) (fun _ hk => hk.2) (.int .i64 t790)) (fun _ hk => hk.2) (.int .i64 t791)) (fun _ hk => hk.2) (.int .i64 t792)) (fun _ hk => hk.2) (.int .i64 t793)) (fun _ h_ => h_.1)))).2.2); (case side4 => exact (Kd.S_reads' HO784.out).2.1); (case side5 => exact (Kd.R_reads' (e := 151) (n := t786.length) (c := co88) (by exact rG HO788 BK794)).2.2); (case side6 => exact (Kd.R_reads' HO788.out).2.1); rintro e w95 ⟨v798, v801, rfl, ho0, ho1, hb⟩; refine ⟨_, rfl, ?_⟩; obtain ⟨b799, HZ799, hz799⟩ := S_born ho0; have HL799 := aM (show w.heap.size ≤ b799 from by rw [HZ799.out]; exact (below_size bS)); obtain ⟨b802, HZ802, hz802⟩ := S_born (Kd.S_newB ho1 (g := gb794) (o := .cells #[.slice Ao88 t786.length co88, .int .i64 t789, .int .i64 t790, .int .i64 t791, .int .i64 t792, .int .i64 t793] 49 (0, 0)) kS); have HL802 := aM (show w.heap.size ≤ b802 from by rw [HZ802.out]; exact (below_size bS)); have HO799 := aM (hz799); have HO802 := aM (hz802); replace HO755 := aM (S_ltB (S_oldB (by exact sG HO755 BK794) hb HZ799.out) HZ799.out HZ802.out); replace HO758 := aM (S_ltB (S_oldB (by exact sT (Kd.S_mono (Kd.S_far (p := ⟨gb794, 5, none⟩) (Kd.S_far (p := ⟨gb794, 4, none⟩) (Kd.S_far (p := ⟨gb794, 3, none⟩) (Kd.S_far (p := ⟨gb794, 2, none⟩) (Kd.S_far (p := ⟨gb794, 1, none⟩) (Kd.S_far (p := ⟨gb794, 0, none⟩) (Kd.S_mono HO758.out (fun k_ hk => (⟨hk, hk.2⟩ : _ ∧ k_ ≠ gb794))) (fun _ hk => hk.2) (.slice Ao88 t786.length co88)) (fun _ hk => hk.2) (.int .i64 t789)) (fun _ hk => hk.2) (.int .i64 t790)) (fun _ hk => hk.2) (.int .i64 t791)) (fun _ hk => hk.2) (.int .i64 t792)) (fun _ hk => hk.2) (.int .i64 t793)) (fun _ h_ => h_.1))) hb HZ799.out) HZ799.out HZ802.out); replace HO761 := aM (R_ltB (R_oldB (by exact rG HO761 BK794) hb HZ799.out) HZ799.out HZ802.out); replace HO771 := aM (S_ltB (S_oldB (by exact sG HO771 BK794) hb HZ799.out) HZ799.out HZ802.out); replace HO774 := aM (S_ltB (S_oldB (by exact sT (Kd.S_mono (Kd.S_far (p := ⟨gb794, 5, none⟩) (Kd.S_far (p := ⟨gb794, 4, none⟩) (Kd.S_far (p := ⟨gb794, 3, none⟩) (Kd.S_far (p := ⟨gb794, 2, none⟩) (Kd.S_far (p := ⟨gb794, 1, none⟩) (Kd.S_far (p := ⟨gb794, 0, none⟩) (Kd.S_mono HO774.out (fun k_ hk => (⟨hk, hk.2⟩ : _ ∧ k_ ≠ gb794))) (fun _ hk => hk.2) (.slice Ao88 t786.length co88)) (fun _ hk => hk.2) (.int .i64 t789)) (fun _ hk => hk.2) (.int .i64 t790)) (fun _ hk => hk.2) (.int .i64 t791)) (fun _ hk => hk.2) (.int .i64 t792)) (fun _ hk => hk.2) (.int .i64 t793)) (fun _ h_ => h_.1))) hb HZ799.out) HZ799.out HZ802.out); replace HO781 := aM (S_ltB (S_oldB (by exact sG HO781 BK794) hb HZ799.out) HZ799.out HZ802.out); replace HO784 := aM (S_ltB (S_oldB (by exact sT (Kd.S_mono (Kd.S_far (p := ⟨gb794, 5, none⟩) (Kd.S_far (p := ⟨gb794, 4, none⟩) (Kd.S_far (p := ⟨gb794, 3, none⟩) (Kd.S_far (p := ⟨gb794, 2, none⟩) (Kd.S_far (p := ⟨gb794, 1, none⟩) (Kd.S_far (p := ⟨gb794, 0, none⟩) (Kd.S_mono HO784.out (fun k_ hk => (⟨hk, hk.2⟩ : _ ∧ k_ ≠ gb794))) (fun _ hk => hk.2) (.slice Ao88 t786.length co88)) (fun _ hk => hk.2) (.int .i64 t789)) (fun _ hk => hk.2) (.int .i64 t790)) (fun _ hk => hk.2) (.int .i64 t791)) (fun _ hk => hk.2) (.int .i64 t792)) (fun _ hk => hk.2) (.int .i64 t793)) (fun _ h_ => h_.1))) hb HZ799.out) HZ799.out HZ802.out); replace HO788 := aM (R_ltB (R_oldB (by exact rG HO788 BK794) hb HZ799.out) HZ799.out HZ802.out); replace BK747 := kB_ gb747 hb; replace BK748 := kB_ gb748 hb; replace BK776 := kB_ gb776 hb; replace BK785 := kB_ gb785 hb; replace BK794 := kO gb794 #[.slice Ao88 t786.length co88, .int .i64 t789, .int .i64 t790, .int .i64 t791, .int .i64 t792, .int .i64 t793] 49 hb; replace HB := hB hb; (try clear hb hk ho0 ho1)) | ((with_reducible refine gD 10 ?_); refine bxE #[.int .i64 0, .int .i64 0, .slice none 0 0, .slice none 0 0] 30 ?_; intro gb804 hg w96 BK804 hb; have GW804 := gE hg; have GE804 := gE hg; have NB747_804 := nL_ gb747 hg; have NB804_747 := nG_ gb747 hg; have NB748_804 := nL_ gb748 hg; have NB804_748 := nG_ gb748 hg; have NB776_804 := nL_ gb776 hg; have NB804_776 := nG_ gb776 hg; have NB785_804 := nL_ gb785 hg; have NB804_785 := nG_ gb785 hg; have NB794_804 := nL_ gb794 hg; have NB804_794 := nG_ gb794 hg; replace HO755 := sB HO755 hb; replace HO758 := sB HO758 hb; replace HO761 := aM (Kd.R_below (rS HO761) hb); replace HO771 := sB HO771 hb; replace HO774 := sB HO774 hb; replace HO781 := sB HO781 hb; replace HO784 := sB HO784 hb; replace HO788 := aM (Kd.R_below (rS HO788) hb); replace HO799 := sB HO799 hb; replace HO802 := sB HO802 hb; replace BK747 := kB_ gb747 hb; replace BK748 := kB_ gb748 hb; replace BK776 := kB_ gb776 hb; replace BK785 := kB_ gb785 hb; replace BK794 := kB_ gb794 hb; replace HB := hB hb; clear hb hg; have hnb97 := NB804_747.out; have hnc97 := NB747_804.out; have hnb98 := NB804_748.out; have hnc98 := NB748_804.out; have hnb99 := NB804_776.out; have hnc99 := NB776_804.out; have hnb100 := NB804_785.out; have hnc100 := NB785_804.out; have hnb101 := NB804_794.out; have hnc101 := NB794_804.out; have hz102 := cz4 BK804; obtain ⟨Ao103, co103, eo103⟩ := Kd.S_slice HO799.out; subst eo103; obtain ⟨Ao104, co104, eo104⟩ := Kd.S_slice HO802.out; subst eo104; have hz105 := cz4 BK776) | ((with_reducible refine gC 13 ?_); refine cL (some 47) Tryz.func13 #[.agg #[.int .i64 t795, .int .i64 t796, .slice Ao103 t797.length co103, .slice Ao104 t800.length co104], .agg #[.int .i64 t767, .int .i64 t768, .slice Ao70 t769.length co70, .slice Ao72 t772.length co72]] ?_; (with_reducible refine (laws_eqBand.calls k t795 t796 _ _ t797 _ _ t800 t767 t768 _ _ t769 _ _ t772 _ _ ?side1 ?side2 ?side3 ?side4 ?side5 ?side6 ?side7 ?side8 A25.out).mono ?_); (case side1 => exact (Kd.S_reads' (e := 54) (n := t797.length) (c := co103) (by exact sG HO799 BK804)).2.2); (case side2 => exact (Kd.S_reads' HO799.out).2.1); (case side3 => exact (Kd.S_reads' (e := 49) (n := t800.length) (c := co104) (by exact sG HO802 BK804)).2.2); (case side4 => exact (Kd.S_reads' HO802.out).2.1); (case side5 => exact (Kd.S_reads' (e := 54) (n := t769.length) (c := co70) (by exact sG HO771 BK804)).2.2); (case side6 => exact (Kd.S_reads' HO771.out).2.1); (case side7 => exact (Kd.S_reads' (e := 49) (n := t772.length) (c := co72) (by exact sG HO774 BK804)).2.2); (case side8 => exact (Kd.S_reads' HO774.out).2.1); rintro e w106 ⟨rfl, hb⟩; refine ⟨_, rfl, ?_⟩; replace HO755 := aM (Kd.S_below (by exact sG HO755 BK804) hb); replace HO758 := aM (Kd.S_below (by exact sG HO758 BK804) hb); replace HO761 := aM (Kd.R_below (by exact rG HO761 BK804) hb); replace HO771 := aM (Kd.S_below (by exact sG HO771 BK804) hb); replace HO774 := aM (Kd.S_below (by exact sG HO774 BK804) hb); replace HO781 := aM (Kd.S_below (by exact sG HO781 BK804) hb); replace HO784 := aM (Kd.S_below (by exact sG HO784 BK804) hb); replace HO788 := aM (Kd.R_below (by exact rG HO788 BK804) hb); replace HO799 := aM (Kd.S_below (by exact sG HO799 BK804) hb); replace HO802 := aM (Kd.S_below (by exact sG HO802 BK804) hb); replace BK747 := kB_ gb747 hb; replace BK748 := kB_ gb748 hb; replace BK776 := kB_ gb776 hb; replace BK785 := kB_ gb785 hb; replace BK794 := kB_ gb794 hb; replace BK804 := kO gb804 #[.int .i64 t795, .int .i64 t796, .slice Ao103 t797.length co103, .slice Ao104 t800.length co104] 30 hb; replace HB := hB hb; (try clear hb hk)))
        replace HO755 := aM (Kd.S_drew HO755.out)
        replace HO758 := aM (Kd.S_drew HO758.out)
        replace HO761 := aM (Kd.R_drew HO761.out)
        replace HO771 := aM (Kd.S_drew HO771.out)
        replace HO774 := aM (Kd.S_drew HO774.out)
        replace HO781 := aM (Kd.S_drew HO781.out)
        replace HO784 := aM (Kd.S_drew HO784.out)
        replace HO788 := aM (Kd.R_drew HO788.out)
        replace HO799 := aM (Kd.S_drew HO799.out)
        replace HO802 := aM (Kd.S_drew HO802.out)
        replace BK747 := aM (blk_drew BK747.out)
        replace BK748 := aM (blk_drew BK748.out)
        replace BK776 := aM (blk_drew BK776.out)
        replace BK785 := aM (blk_drew BK785.out)
        replace BK794 := aM (blk_drew BK794.out)
        replace BK804 := aM (blk_drew BK804.out)
        replace HB := aM (below_drew1 HB.out)
        refine start_ (n := 5) (S := fun w' => w'.cell? ⟨gb785, 0, none⟩ = some (.int .i64 t777) ∧ w'.cell? ⟨gb785, 1, none⟩ = some (.int .i64 t778) ∧ w'.cell? ⟨gb785, 2, none⟩ = some (.slice Ao82 t779.length co82) ∧ w'.cell? ⟨gb785, 3, none⟩ = some (.slice Ao83 t782.length co83) ∧ w'.cell? ⟨gb747, 0, none⟩ = some (.int .i64 a0_0) ∧ w'.cell? ⟨gb747, 1, none⟩ = some (.int .i64 a0_1) ∧ w'.cell? ⟨gb747, 2, none⟩ = some (.slice A0_2 l0_2.length c0_2) ∧ w'.cell? ⟨gb747, 3, none⟩ = some (.slice A0_3 l0_3.length c0_3)) (ds := []) (mB 5 0) (by kernel_rfl) rfl rfl (cx4 BK785 (cy4 BK747)) (fun hHeld => ?_)
        generalize w106.drew = w107 at HO755 HO758 HO761 HO771 HO774 HO781 HO784 HO788 HO799 HO802 BK747 BK748 BK776 BK785 BK794 BK804 HB hHeld ⊢
        refine tK 0 (some 54) (mB 5 1) ?_
        refine tK 1 (some 55) (mB 5 3) ?_
        refine one_ (i := 2) (N := some 56) (mB 5 7) rfl rfl (by kernel_rfl) (by decide) (fun K hK => ?_)
        refine goes_ Tryz.func10 (by kernel_rfl) rfl #[.agg #[.int .i64 a0_0, .int .i64 a0_1, .slice A0_2 l0_2.length c0_2, .slice A0_3 l0_3.length c0_3]] (by rfl) rfl rfl mA ?_
        with_reducible refine (laws_toBand.calls k a0_0 a0_1 _ _ l0_2 _ _ l0_3 t806 t807 t808 t811 _ ?side1 ?side2 ?side3 ?side4 A28.out).mono ?_
        (case side1 => exact cS (Kd.C_below HR0_2.out HB.out))
        (case side2 => exact HC0_2.out)
        (case side3 => exact cS (Kd.C_below HR0_3.out HB.out))
        (case side4 => exact HC0_3.out)
        rintro e w108 ⟨v809, v812, rfl, ho0, ho1, hb⟩
        refine ⟨_, rfl, ?_⟩
        obtain ⟨b810, HZ810, hz810⟩ := S_born ho0
        have HL810 := aM (show w.heap.size ≤ b810 from by rw [HZ810.out]; exact (below_size bS))
        obtain ⟨b813, HZ813, hz813⟩ := S_born (Kd.S_newB ho1 (g := gb794) kS)
        have HL813 := aM (show w.heap.size ≤ b813 from by rw [HZ813.out]; exact (below_size bS))
        have HO810 := aM (hz810)
        have HO813 := aM (hz813)
        replace HO755 := aM (S_ltB (S_oldB (sS HO755) hb HZ810.out) HZ810.out HZ813.out)
        replace HO758 := aM (S_ltB (S_oldB (sS HO758) hb HZ810.out) HZ810.out HZ813.out)
        replace HO761 := aM (R_ltB (R_oldB (rS HO761) hb HZ810.out) HZ810.out HZ813.out)
        replace HO771 := aM (S_ltB (S_oldB (sS HO771) hb HZ810.out) HZ810.out HZ813.out)
        replace HO774 := aM (S_ltB (S_oldB (sS HO774) hb HZ810.out) HZ810.out HZ813.out)
        replace HO781 := aM (S_ltB (S_oldB (sS HO781) hb HZ810.out) HZ810.out HZ813.out)
        replace HO784 := aM (S_ltB (S_oldB (sS HO784) hb HZ810.out) HZ810.out HZ813.out)
        replace HO788 := aM (R_ltB (R_oldB (rS HO788) hb HZ810.out) HZ810.out HZ813.out)
        replace HO799 := aM (S_ltB (S_oldB (sS HO799) hb HZ810.out) HZ810.out HZ813.out)
        replace HO802 := aM (S_ltB (S_oldB (sS HO802) hb HZ810.out) HZ810.out HZ813.out)
        replace BK747 := kB_ gb747 hb
        replace BK748 := kB_ gb748 hb
        replace BK776 := kB_ gb776 hb
        replace BK785 := kB_ gb785 hb
        replace BK794 := kB_ gb794 hb
        replace BK804 := kB_ gb804 hb
        replace HB := hB hb
        (try clear hb)
        (try clear hb2)
        (try clear hk)
        (try clear hi)
        (try clear ho0)
        (try clear ho1)
        obtain ⟨Ao109, co109, eo109⟩ := Kd.S_slice HO810.out
        (first | subst eo109 | obtain ⟨rfl, rfl⟩ := slE eo109)
        obtain ⟨Ao110, co110, eo110⟩ := Kd.S_slice HO813.out
        (first | subst eo110 | obtain ⟨rfl, rfl⟩ := slE eo110)
        refine hK.out _ _ (cx4 BK785 (cy4 BK747)) (fun hHeld => ?_)
        clear hK K
        refine norm_ (a' := ?_) ?_ ?_
        rotate_left
        ·show Act.put _ (some 56) _ = _
         simp only [Act.put, List.setIfInBounds_toArray, List.set_cons_zero, List.set_cons_succ, i64_w, i32_w]
         rfl
        refine one_ (i := 3) (N := some 57) (mB 5 15) rfl rfl (by kernel_rfl) (by decide) (fun K hK => ?_)
        refine goes_ Tryz.func13 (by kernel_rfl) rfl #[.agg #[.int .i64 t777, .int .i64 t778, .slice Ao82 t779.length co82, .slice Ao83 t782.length co83], .agg #[.int .i64 t806, .int .i64 t807, .slice Ao109 t808.length co109, .slice Ao110 t811.length co110]] (by rfl) rfl rfl mA ?_
        with_reducible refine (laws_eqBand.calls k t777 t778 _ _ t779 _ _ t782 t806 t807 _ _ t808 _ _ t811 _ _ ?side1 ?side2 ?side3 ?side4 ?side5 ?side6 ?side7 ?side8 A29.out).mono ?_
        (case side1 => exact cS (Kd.S_reads' HO781.out).2.2)
        (case side2 => exact (Kd.S_reads' HO781.out).2.1)
        (case side3 => exact cS (Kd.S_reads' HO784.out).2.2)
        (case side4 => exact (Kd.S_reads' HO784.out).2.1)
        (case side5 => exact cS (Kd.S_reads' HO810.out).2.2)
        (case side6 => exact (Kd.S_reads' HO810.out).2.1)
        (case side7 => exact cS (Kd.S_reads' HO813.out).2.2)
        (case side8 => exact (Kd.S_reads' HO813.out).2.1)
        rintro e w111 ⟨rfl, hb⟩
        refine ⟨_, rfl, ?_⟩
        replace HO755 := sB HO755 hb
        replace HO758 := sB HO758 hb
        replace HO761 := aM (Kd.R_below (rS HO761) hb)
        replace HO771 := sB HO771 hb
        replace HO774 := sB HO774 hb
        replace HO781 := sB HO781 hb
        replace HO784 := sB HO784 hb
        replace HO788 := aM (Kd.R_below (rS HO788) hb)
        replace HO799 := sB HO799 hb
        replace HO802 := sB HO802 hb
        replace HO810 := sB HO810 hb
        replace HO813 := sB HO813 hb
        replace BK747 := kB_ gb747 hb
        replace BK748 := kB_ gb748 hb
        replace BK776 := kB_ gb776 hb
        replace BK785 := kB_ gb785 hb
        replace BK794 := kB_ gb794 hb
        replace BK804 := kB_ gb804 hb
        replace HB := hB hb
        (try clear hb)
        (try clear hb2)
        (try clear hk)
        (try clear hi)
        refine hK.out _ _ (cx4 BK785 (cy4 BK747)) (fun hHeld => ?_)
        clear hK K
        refine norm_ (a' := ?_) ?_ ?_
        rotate_left
        ·show Act.put _ (some 57) _ = _
         simp only [Act.put, List.setIfInBounds_toArray, List.set_cons_zero, List.set_cons_succ, i64_w, i32_w]
         rfl
        refine pU 4 (some 58) (mB 5 31) ?_
        refine done_ (by kernel_rfl) ?_
        try go_wp2
        replace HO755 := aM (Kd.S_drew HO755.out)
        replace HO758 := aM (Kd.S_drew HO758.out)
        replace HO761 := aM (Kd.R_drew HO761.out)
        replace HO771 := aM (Kd.S_drew HO771.out)
        replace HO774 := aM (Kd.S_drew HO774.out)
        replace HO781 := aM (Kd.S_drew HO781.out)
        replace HO784 := aM (Kd.S_drew HO784.out)
        replace HO788 := aM (Kd.R_drew HO788.out)
        replace HO799 := aM (Kd.S_drew HO799.out)
        replace HO802 := aM (Kd.S_drew HO802.out)
        replace HO810 := aM (Kd.S_drew HO810.out)
        replace HO813 := aM (Kd.S_drew HO813.out)
        replace BK747 := aM (blk_drew BK747.out)
        replace BK748 := aM (blk_drew BK748.out)
        replace BK776 := aM (blk_drew BK776.out)
        replace BK785 := aM (blk_drew BK785.out)
        replace BK794 := aM (blk_drew BK794.out)
        replace BK804 := aM (blk_drew BK804.out)
        replace HB := aM (below_drew1 HB.out)
        refine start_ (n := 5) (S := fun w' => w'.cell? ⟨gb794, 0, none⟩ = some (.slice Ao88 t786.length co88) ∧ w'.cell? ⟨gb794, 1, none⟩ = some (.int .i64 t789) ∧ w'.cell? ⟨gb794, 2, none⟩ = some (.int .i64 t790) ∧ w'.cell? ⟨gb794, 3, none⟩ = some (.int .i64 t791) ∧ w'.cell? ⟨gb794, 4, none⟩ = some (.int .i64 t792) ∧ w'.cell? ⟨gb794, 5, none⟩ = some (.int .i64 t793) ∧ w'.cell? ⟨gb748, 0, none⟩ = some (.slice A1_0 l1_0.length c1_0) ∧ w'.cell? ⟨gb748, 1, none⟩ = some (.int .i64 a1_1) ∧ w'.cell? ⟨gb748, 2, none⟩ = some (.int .i64 a1_2) ∧ w'.cell? ⟨gb748, 3, none⟩ = some (.int .i64 a1_3) ∧ w'.cell? ⟨gb748, 4, none⟩ = some (.int .i64 a1_4) ∧ w'.cell? ⟨gb748, 5, none⟩ = some (.int .i64 a1_5)) (ds := []) (mB 5 0) (by kernel_rfl) rfl rfl (cx6 BK794 (cy6 BK748)) (fun hHeld => ?_)
        generalize w111.drew = w112 at HO755 HO758 HO761 HO771 HO774 HO781 HO784 HO788 HO799 HO802 HO810 HO813 BK747 BK748 BK776 BK785 BK794 BK804 HB hHeld ⊢
        refine tK 0 (some 59) (mB 5 1) ?_
        refine tK 1 (some 60) (mB 5 3) ?_
        refine one_ (i := 2) (N := some 61) (mB 5 7) rfl rfl (by kernel_rfl) (by decide) (fun K hK => ?_)
        refine goes_ Tryz.func22 (by kernel_rfl) rfl #[.agg #[.slice A1_0 l1_0.length c1_0, .int .i64 a1_1, .int .i64 a1_2, .int .i64 a1_3, .int .i64 a1_4, .int .i64 a1_5]] (by rfl) rfl rfl mA ?_
        with_reducible refine (laws_toObject.calls k _ _ l1_0 a1_1 a1_2 a1_3 a1_4 a1_5 t815 t818 t819 t820 t821 t822 _ ?side1 ?side2 A31.out).mono ?_
        (case side1 => exact cS (Kd.C_below HR1_0.out HB.out))
        (case side2 => exact HC1_0.out)
        rintro e w113 ⟨v816, rfl, ho0, hb⟩
        refine ⟨_, rfl, ?_⟩
        obtain ⟨b817, HZ817, hz817⟩ := R_born ho0
        have HL817 := aM (show w.heap.size ≤ b817 from by rw [HZ817.out]; exact (below_size bS))
        have HO817 := aM (hz817)
        replace HO755 := aM (S_oldB (sS HO755) hb HZ817.out)
        replace HO758 := aM (S_oldB (sS HO758) hb HZ817.out)
        replace HO761 := aM (R_oldB (rS HO761) hb HZ817.out)
        replace HO771 := aM (S_oldB (sS HO771) hb HZ817.out)
        replace HO774 := aM (S_oldB (sS HO774) hb HZ817.out)
        replace HO781 := aM (S_oldB (sS HO781) hb HZ817.out)
        replace HO784 := aM (S_oldB (sS HO784) hb HZ817.out)
        replace HO788 := aM (R_oldB (rS HO788) hb HZ817.out)
        replace HO799 := aM (S_oldB (sS HO799) hb HZ817.out)
        replace HO802 := aM (S_oldB (sS HO802) hb HZ817.out)
        replace HO810 := aM (S_oldB (sS HO810) hb HZ817.out)
        replace HO813 := aM (S_oldB (sS HO813) hb HZ817.out)
        replace BK747 := kB_ gb747 hb
        replace BK748 := kB_ gb748 hb
        replace BK776 := kB_ gb776 hb
        replace BK785 := kB_ gb785 hb
        replace BK794 := kB_ gb794 hb
        replace BK804 := kB_ gb804 hb
        replace HB := hB hb
        (try clear hb)
        (try clear hb2)
        (try clear hk)
        (try clear hi)
        (try clear ho0)
        obtain ⟨Ao114, co114, eo114⟩ := Kd.R_slice HO817.out
        (first | subst eo114 | obtain ⟨rfl, rfl⟩ := slE eo114)
        refine hK.out _ _ (cx6 BK794 (cy6 BK748)) (fun hHeld => ?_)
        clear hK K
        refine norm_ (a' := ?_) ?_ ?_
        rotate_left
        ·show Act.put _ (some 61) _ = _
         simp only [Act.put, List.setIfInBounds_toArray, List.set_cons_zero, List.set_cons_succ, i64_w, i32_w]
         rfl
        refine one_ (i := 3) (N := some 62) (mB 5 15) rfl rfl (by kernel_rfl) (by decide) (fun K hK => ?_)
        refine goes_ Tryz.func24 (by kernel_rfl) rfl #[.agg #[.slice Ao88 t786.length co88, .int .i64 t789, .int .i64 t790, .int .i64 t791, .int .i64 t792, .int .i64 t793], .agg #[.slice Ao114 t815.length co114, .int .i64 t818, .int .i64 t819, .int .i64 t820, .int .i64 t821, .int .i64 t822]] (by rfl) rfl rfl mA ?_
        with_reducible refine (laws_eqObject.calls k _ _ t786 t789 t790 t791 t792 t793 _ _ t815 t818 t819 t820 t821 t822 _ _ ?side1 ?side2 ?side3 ?side4 A32.out).mono ?_
        (case side1 => exact cS (Kd.R_reads' HO788.out).2.2)
        (case side2 => exact (Kd.R_reads' HO788.out).2.1)
        (case side3 => exact cS (Kd.R_reads' HO817.out).2.2)
        (case side4 => exact (Kd.R_reads' HO817.out).2.1)
        rintro e w115 ⟨rfl, hb⟩
        refine ⟨_, rfl, ?_⟩
        replace HO755 := sB HO755 hb
        replace HO758 := sB HO758 hb
        replace HO761 := aM (Kd.R_below (rS HO761) hb)
        replace HO771 := sB HO771 hb
        replace HO774 := sB HO774 hb
        replace HO781 := sB HO781 hb
        replace HO784 := sB HO784 hb
        replace HO788 := aM (Kd.R_below (rS HO788) hb)
        replace HO799 := sB HO799 hb
        replace HO802 := sB HO802 hb
        replace HO810 := sB HO810 hb
        replace HO813 := sB HO813 hb
        replace HO817 := aM (Kd.R_below (rS HO817) hb)
        replace BK747 := kB_ gb747 hb
        replace BK748 := kB_ gb748 hb
        replace BK776 := kB_ gb776 hb
        replace BK785 := kB_ gb785 hb
        replace BK794 := kB_ gb794 hb
        replace BK804 := kB_ gb804 hb
        replace HB := hB hb
        (try clear hb)
        (try clear hb2)
        (try clear hk)
        (try clear hi)
        refine hK.out _ _ (cx6 BK794 (cy6 BK748)) (fun hHeld => ?_)
        clear hK K
        refine norm_ (a' := ?_) ?_ ?_
        rotate_left
        ·show Act.put _ (some 62) _ = _
         simp only [Act.put, List.setIfInBounds_toArray, List.set_cons_zero, List.set_cons_succ, i64_w, i32_w]
         rfl
        refine pU 4 (some 63) (mB 5 31) ?_
        refine done_ (by kernel_rfl) ?_
        have hz116 := cz4 BK785
        try go_wp2_with (first | ((with_reducible refine gC 14 ?_); refine cL (some 66) Tryz.func14 #[.agg #[.int .i64 t777, .int .i64 t778, .slice Ao82 t779.length co82, .slice Ao83 t782.length co83], .int .i64 1] ?_; (with_reducible refine (laws_markBand.calls k t777 t778 (fun k_ => (w.heap.size ≤ k_ ∧ ∃ q_, q_ ∈ 54 :: (Kd.slice 3 (Kd.int .i64)).E ∧ ∃ c_, w115.heap[k_]? = some (.cells c_ q_ (0, 0))) ∧ b781 ≤ k_ ∧ k_ < b788 ∧ k_ < b799 ∧ k_ < b802 ∧ k_ < b810 ∧ k_ < b813 ∧ k_ < b817 ∧ True) (.slice Ao82 t779.length co82) t779 (fun k_ => (w.heap.size ≤ k_ ∧ ∃ q_, q_ ∈ 49 :: k49.E ∧ ∃ c_, w115.heap[k_]? = some (.cells c_ q_ (0, 0))) ∧ b784 ≤ k_ ∧ k_ < b788 ∧ k_ < b799 ∧ k_ < b802 ∧ k_ < b810 ∧ k_ < b813 ∧ k_ < b817 ∧ k_ ≠ gb794 ∧ True) (.slice Ao83 t782.length co83) t782 1 t824 t825 t826 w _ ?side1 ?side2 ?side3 A34.out).mono ?_); (case side1 => repeat (first | (with_reducible first | exact HB.out | apply below_alloc | apply pw_below_drewN | apply below_drew1 | refine below_set ?_ GE747.out | refine below_set ?_ GE748.out | refine below_set ?_ GE776.out | refine below_set ?_ GE785.out | refine below_set ?_ GE794.out | refine below_set ?_ GE804.out) | exact HB.out)); (case side2 => (with_reducible repeat (first | apply Kd.S_alloc | apply Kd.S_drewN | apply Kd.S_drew)); exact Kd.S_lower (Kd.S_mono (Kd.S_bound HO781.out) (fun k_ h_ => ⟨⟨Nat.le_trans HL781.out h_.2.1, h_.2.2.2⟩, h_.2.1, h_.1.1.1.1.1.1.2, h_.1.1.1.1.1.2, h_.1.1.1.1.2, h_.1.1.1.2, h_.1.1.2, h_.1.2, trivial⟩)) HL781.out); (case side3 => (with_reducible repeat (first | apply Kd.S_alloc | apply Kd.S_drewN | apply Kd.S_drew)); exact Kd.S_lower (Kd.S_mono (Kd.S_bound HO784.out) (fun k_ h_ => ⟨⟨Nat.le_trans HL784.out h_.2.1, h_.2.2.2⟩, h_.2.1, h_.1.1.1.1.1.1.1.2, h_.1.1.1.1.1.2, h_.1.1.1.1.2, h_.1.1.1.2, h_.1.1.2, h_.1.2, h_.1.1.1.1.1.1.2, trivial⟩)) HL784.out); rintro e w117 ⟨rfl, hy0, hy1, hb, hkp⟩; refine ⟨_, rfl, ?_⟩; replace BK747 := bM (g := gb747) hkp; replace BK748 := bM (g := gb748) hkp; replace HO755 := aM (Kd.S_mono (ok' := fun k_ => k_ < b761 ∧ k_ < b771 ∧ k_ < b774 ∧ k_ < b781 ∧ k_ < b784 ∧ k_ < b788 ∧ k_ < b799 ∧ k_ < b802 ∧ k_ < b810 ∧ k_ < b813 ∧ k_ < b817) (Kd.S_keptB ((S_not (fun k_ => (w.heap.size ≤ k_ ∧ ∃ q_, q_ ∈ 49 :: k49.E ∧ ∃ c_, w115.heap[k_]? = some (.cells c_ q_ (0, 0))) ∧ b784 ≤ k_ ∧ k_ < b788 ∧ k_ < b799 ∧ k_ < b802 ∧ k_ < b810 ∧ k_ < b813 ∧ k_ < b817 ∧ k_ ≠ gb794 ∧ True) (S_not (fun k_ => (w.heap.size ≤ k_ ∧ ∃ q_, q_ ∈ 54 :: (Kd.slice 3 (Kd.int .i64)).E ∧ ∃ c_, w115.heap[k_]? = some (.cells c_ q_ (0, 0))) ∧ b781 ≤ k_ ∧ k_ < b788 ∧ k_ < b799 ∧ k_ < b802 ∧ k_ < b810 ∧ k_ < b813 ∧ k_ < b817 ∧ True) HO755.out (fun k_ h_ e_ => Nat.not_le.2 (h_.1.1.1.1.1.1.1.1.2) e_.2.1)) (fun k_ h_ e_ => Nat.not_le.2 (h_.1.1.1.1.1.1.1.1.2) e_.2.1))) hkp (fun k_ hk_ hs_ => Or.elim hs_ (fun e_ => (hk_.1.2) e_) (fun e_ => (hk_.2) e_))) (fun k_ hk_ => ⟨hk_.1.1.1.1.1.1.1.1.1.1.1.1, hk_.1.1.1.1.1.1.1.1.1.1.1.2.1, hk_.1.1.1.1.1.1.1.1.1.1.1.2.2, hk_.1.1.1.1.1.1.1.1.1.1.2, hk_.1.1.1.1.1.1.1.1.1.2, hk_.1.1.1.1.1.1.1.1.2, hk_.1.1.1.1.1.1.1.2, hk_.1.1.1.1.1.1.2, hk_.1.1.1.1.1.2, hk_.1.1.1.1.2, hk_.1.1.1.2⟩)); replace HO758 := aM (Kd.S_mono (ok' := fun k_ => k_ < b761 ∧ k_ < b771 ∧ k_ < b774 ∧ k_ < b781 ∧ k_ < b784 ∧ k_ < b788 ∧ k_ < b799 ∧ k_ < b802 ∧ k_ < b810 ∧ k_ < b813 ∧ k_ < b817 ∧ k_ ≠ gb794) (Kd.S_keptB ((S_not (fun k_ => (w.heap.size ≤ k_ ∧ ∃ q_, q_ ∈ 49 :: k49.E ∧ ∃ c_, w115.heap[k_]? = some (.cells c_ q_ (0, 0))) ∧ b784 ≤ k_ ∧ k_ < b788 ∧ k_ < b799 ∧ k_ < b802 ∧ k_ < b810 ∧ k_ < b813 ∧ k_ < b817 ∧ k_ ≠ gb794 ∧ True) (S_not (fun k_ => (w.heap.size ≤ k_ ∧ ∃ q_, q_ ∈ 54 :: (Kd.slice 3 (Kd.int .i64)).E ∧ ∃ c_, w115.heap[k_]? = some (.cells c_ q_ (0, 0))) ∧ b781 ≤ k_ ∧ k_ < b788 ∧ k_ < b799 ∧ k_ < b802 ∧ k_ < b810 ∧ k_ < b813 ∧ k_ < b817 ∧ True) HO758.out (fun k_ h_ e_ => Nat.not_le.2 (h_.1.1.1.1.1.1.1.1.1.2) e_.2.1)) (fun k_ h_ e_ => Nat.not_le.2 (h_.1.1.1.1.1.1.1.1.1.2) e_.2.1))) hkp (fun k_ hk_ hs_ => Or.elim hs_ (fun e_ => (hk_.1.2) e_) (fun e_ => (hk_.2) e_))) (fun k_ hk_ => ⟨hk_.1.1.1.1.1.1.1.1.1.1.1.1.1, hk_.1.1.1.1.1.1.1.1.1.1.1.1.2.1, hk_.1.1.1.1.1.1.1.1.1.1.1.1.2.2, hk_.1.1.1.1.1.1.1.1.1.1.1.2, hk_.1.1.1.1.1.1.1.1.1.1.2, hk_.1.1.1.1.1.1.1.1.1.2, hk_.1.1.1.1.1.1.1.2, hk_.1.1.1.1.1.1.2, hk_.1.1.1.1.1.2, hk_.1.1.1.1.2, hk_.1.1.1.2, hk_.1.1.1.1.1.1.1.1.2⟩)); replace HO761 := aM (Kd.R_mono (ok' := fun k_ => k_ < b771 ∧ k_ < b774 ∧ k_ < b781 ∧ k_ < b784 ∧ k_ < b788 ∧ k_ < b799 ∧ k_ < b802 ∧ k_ < b810 ∧ k_ < b813 ∧ k_ < b817) (Kd.R_keptB ((R_not (fun k_ => (w.heap.size ≤ k_ ∧ ∃ q_, q_ ∈ 49 :: k49.E ∧ ∃ c_, w115.heap[k_]? = some (.cells c_ q_ (0, 0))) ∧ b784 ≤ k_ ∧ k_ < b788 ∧ k_ < b799 ∧ k_ < b802 ∧ k_ < b810 ∧ k_ < b813 ∧ k_ < b817 ∧ k_ ≠ gb794 ∧ True) (R_not (fun k_ => (w.heap.size ≤ k_ ∧ ∃ q_, q_ ∈ 54 :: (Kd.slice 3 (Kd.int .i64)).E ∧ ∃ c_, w115.heap[k_]? = some (.cells c_ q_ (0, 0))) ∧ b781 ≤ k_ ∧ k_ < b788 ∧ k_ < b799 ∧ k_ < b802 ∧ k_ < b810 ∧ k_ < b813 ∧ k_ < b817 ∧ True) HO761.out (fun k_ h_ e_ => Nat.not_le.2 (h_.1.1.1.1.1.1.1.1.2) e_.2.1)) (fun k_ h_ e_ => Nat.not_le.2 (h_.1.1.1.1.1.1.1.1.2) e_.2.1))) hkp (fun k_ hk_ hs_ => Or.elim hs_ (fun e_ => (hk_.1.2) e_) (fun e_ => (hk_.2) e_))) (fun k_ hk_ => ⟨hk_.1.1.1.1.1.1.1.1.1.1.1.1, hk_.1.1.1.1.1.1.1.1.1.1.1.2, hk_.1.1.1.1.1.1.1.1.1.1.2, hk_.1.1.1.1.1.1.1.1.1.2, hk_.1.1.1.1.1.1.1.1.2, hk_.1.1.1.1.1.1.1.2, hk_.1.1.1.1.1.1.2, hk_.1.1.1.1.1.2, hk_.1.1.1.1.2, hk_.1.1.1.2⟩)); replace HO771 := aM (Kd.S_mono (ok' := fun k_ => k_ < b781 ∧ k_ < b784 ∧ k_ < b788 ∧ k_ < b799 ∧ k_ < b802 ∧ k_ < b810 ∧ k_ < b813 ∧ k_ < b817) (Kd.S_keptB ((S_not (fun k_ => (w.heap.size ≤ k_ ∧ ∃ q_, q_ ∈ 49 :: k49.E ∧ ∃ c_, w115.heap[k_]? = some (.cells c_ q_ (0, 0))) ∧ b784 ≤ k_ ∧ k_ < b788 ∧ k_ < b799 ∧ k_ < b802 ∧ k_ < b810 ∧ k_ < b813 ∧ k_ < b817 ∧ k_ ≠ gb794 ∧ True) (S_not (fun k_ => (w.heap.size ≤ k_ ∧ ∃ q_, q_ ∈ 54 :: (Kd.slice 3 (Kd.int .i64)).E ∧ ∃ c_, w115.heap[k_]? = some (.cells c_ q_ (0, 0))) ∧ b781 ≤ k_ ∧ k_ < b788 ∧ k_ < b799 ∧ k_ < b802 ∧ k_ < b810 ∧ k_ < b813 ∧ k_ < b817 ∧ True) HO771.out (fun k_ h_ e_ => Nat.not_le.2 (h_.1.1.1.1.1.1.1.1.2) e_.2.1)) (fun k_ h_ e_ => Nat.not_le.2 (h_.1.1.1.1.1.1.1.1.2) e_.2.1))) hkp (fun k_ hk_ hs_ => Or.elim hs_ (fun e_ => (hk_.1.2) e_) (fun e_ => (hk_.2) e_))) (fun k_ hk_ => ⟨hk_.1.1.1.1.1.1.1.1.1.1.2, hk_.1.1.1.1.1.1.1.1.1.2, hk_.1.1.1.1.1.1.1.1.2, hk_.1.1.1.1.1.1.1.2, hk_.1.1.1.1.1.1.2, hk_.1.1.1.1.1.2, hk_.1.1.1.1.2, hk_.1.1.1.2⟩)); replace HO774 := aM (Kd.S_mono (ok' := fun k_ => k_ < b781 ∧ k_ < b784 ∧ k_ < b788 ∧ k_ < b799 ∧ k_ < b802 ∧ k_ < b810 ∧ k_ < b813 ∧ k_ < b817 ∧ k_ ≠ gb794) (Kd.S_keptB ((S_not (fun k_ => (w.heap.size ≤ k_ ∧ ∃ q_, q_ ∈ 49 :: k49.E ∧ ∃ c_, w115.heap[k_]? = some (.cells c_ q_ (0, 0))) ∧ b784 ≤ k_ ∧ k_ < b788 ∧ k_ < b799 ∧ k_ < b802 ∧ k_ < b810 ∧ k_ < b813 ∧ k_ < b817 ∧ k_ ≠ gb794 ∧ True) (S_not (fun k_ => (w.heap.size ≤ k_ ∧ ∃ q_, q_ ∈ 54 :: (Kd.slice 3 (Kd.int .i64)).E ∧ ∃ c_, w115.heap[k_]? = some (.cells c_ q_ (0, 0))) ∧ b781 ≤ k_ ∧ k_ < b788 ∧ k_ < b799 ∧ k_ < b802 ∧ k_ < b810 ∧ k_ < b813 ∧ k_ < b817 ∧ True) HO774.out (fun k_ h_ e_ => Nat.not_le.2 (h_.1.1.1.1.1.1.1.1.1.2) e_.2.1)) (fun k_ h_ e_ => Nat.not_le.2 (h_.1.1.1.1.1.1.1.1.1.2) e_.2.1))) hkp (fun k_ hk_ hs_ => Or.elim hs_ (fun e_ => (hk_.1.2) e_) (fun e_ => (hk_.2) e_))) (fun k_ hk_ => ⟨hk_.1.1.1.1.1.1.1.1.1.1.1.2, hk_.1.1.1.1.1.1.1.1.1.1.2, hk_.1.1.1.1.1.1.1.1.1.2, hk_.1.1.1.1.1.1.1.2, hk_.1.1.1.1.1.1.2, hk_.1.1.1.1.1.2, hk_.1.1.1.1.2, hk_.1.1.1.2, hk_.1.1.1.1.1.1.1.1.2⟩)); replace BK776 := bM (g := gb776) hkp; replace HO781 := aM (Kd.S_mono (ok' := fun _ => True) hy0 (fun _ _ => trivial)); replace HO784 := aM (Kd.S_mono (ok' := fun _ => True) hy1 (fun _ _ => trivial)); replace BK785 := bM (g := gb785) hkp; replace HO788 := aM (Kd.R_mono (ok' := fun k_ => k_ < b799 ∧ k_ < b802 ∧ k_ < b810 ∧ k_ < b813 ∧ k_ < b817) (Kd.R_keptB ((R_not (fun k_ => (w.heap.size ≤ k_ ∧ ∃ q_, q_ ∈ 49 :: k49.E ∧ ∃ c_, w115.heap[k_]? = some (.cells c_ q_ (0, 0))) ∧ b784 ≤ k_ ∧ k_ < b788 ∧ k_ < b799 ∧ k_ < b802 ∧ k_ < b810 ∧ k_ < b813 ∧ k_ < b817 ∧ k_ ≠ gb794 ∧ True) (R_not (fun k_ => (w.heap.size ≤ k_ ∧ ∃ q_, q_ ∈ 54 :: (Kd.slice 3 (Kd.int .i64)).E ∧ ∃ c_, w115.heap[k_]? = some (.cells c_ q_ (0, 0))) ∧ b781 ≤ k_ ∧ k_ < b788 ∧ k_ < b799 ∧ k_ < b802 ∧ k_ < b810 ∧ k_ < b813 ∧ k_ < b817 ∧ True) HO788.out (fun k_ h_ e_ => Nat.not_lt.2 h_.2.1 (e_.2.2.1))) (fun k_ h_ e_ => Nat.not_lt.2 h_.2.1 (e_.2.2.1)))) hkp (fun k_ hk_ hs_ => Or.elim hs_ (fun e_ => (hk_.1.2) e_) (fun e_ => (hk_.2) e_))) (fun k_ hk_ => ⟨hk_.1.1.1.1.1.1.1.2, hk_.1.1.1.1.1.1.2, hk_.1.1.1.1.1.2, hk_.1.1.1.1.2, hk_.1.1.1.2⟩)); replace BK794 := bM (g := gb794) hkp; replace HO799 := aM (Kd.S_mono (ok' := fun k_ => k_ < b810 ∧ k_ < b813 ∧ k_ < b817) (Kd.S_keptB ((S_not (fun k_ => (w.heap.size ≤ k_ ∧ ∃ q_, q_ ∈ 49 :: k49.E ∧ ∃ c_, w115.heap[k_]? = some (.cells c_ q_ (0, 0))) ∧ b784 ≤ k_ ∧ k_ < b788 ∧ k_ < b799 ∧ k_ < b802 ∧ k_ < b810 ∧ k_ < b813 ∧ k_ < b817 ∧ k_ ≠ gb794 ∧ True) (S_not (fun k_ => (w.heap.size ≤ k_ ∧ ∃ q_, q_ ∈ 54 :: (Kd.slice 3 (Kd.int .i64)).E ∧ ∃ c_, w115.heap[k_]? = some (.cells c_ q_ (0, 0))) ∧ b781 ≤ k_ ∧ k_ < b788 ∧ k_ < b799 ∧ k_ < b802 ∧ k_ < b810 ∧ k_ < b813 ∧ k_ < b817 ∧ True) HO799.out (fun k_ h_ e_ => Nat.not_lt.2 h_.2.1 (e_.2.2.2.1))) (fun k_ h_ e_ => Nat.not_lt.2 h_.2.1 (e_.2.2.2.1)))) hkp (fun k_ hk_ hs_ => Or.elim hs_ (fun e_ => (hk_.1.2) e_) (fun e_ => (hk_.2) e_))) (fun k_ hk_ => ⟨hk_.1.1.1.1.1.2, hk_.1.1.1.1.2, hk_.1.1.1.2⟩)); replace HO802 := aM (Kd.S_mono (ok' := fun k_ => k_ < b810 ∧ k_ < b813 ∧ k_ < b817 ∧ k_ ≠ gb794) (Kd.S_keptB ((S_not (fun k_ => (w.heap.size ≤ k_ ∧ ∃ q_, q_ ∈ 49 :: k49.E ∧ ∃ c_, w115.heap[k_]? = some (.cells c_ q_ (0, 0))) ∧ b784 ≤ k_ ∧ k_ < b788 ∧ k_ < b799 ∧ k_ < b802 ∧ k_ < b810 ∧ k_ < b813 ∧ k_ < b817 ∧ k_ ≠ gb794 ∧ True) (S_not (fun k_ => (w.heap.size ≤ k_ ∧ ∃ q_, q_ ∈ 54 :: (Kd.slice 3 (Kd.int .i64)).E ∧ ∃ c_, w115.heap[k_]? = some (.cells c_ q_ (0, 0))) ∧ b781 ≤ k_ ∧ k_ < b788 ∧ k_ < b799 ∧ k_ < b802 ∧ k_ < b810 ∧ k_ < b813 ∧ k_ < b817 ∧ True) HO802.out (fun k_ h_ e_ => Nat.not_lt.2 h_.2.1 (e_.2.2.2.2.1))) (fun k_ h_ e_ => Nat.not_lt.2 h_.2.1 (e_.2.2.2.2.1)))) hkp (fun k_ hk_ hs_ => Or.elim hs_ (fun e_ => (hk_.1.2) e_) (fun e_ => (hk_.2) e_))) (fun k_ hk_ => ⟨hk_.1.1.1.1.1.2, hk_.1.1.1.1.2, hk_.1.1.1.2, hk_.1.1.1.1.1.1.2⟩)); replace BK804 := bM (g := gb804) hkp; replace HO810 := aM (Kd.S_mono (ok' := fun k_ => k_ < b817) (Kd.S_keptB ((S_not (fun k_ => (w.heap.size ≤ k_ ∧ ∃ q_, q_ ∈ 49 :: k49.E ∧ ∃ c_, w115.heap[k_]? = some (.cells c_ q_ (0, 0))) ∧ b784 ≤ k_ ∧ k_ < b788 ∧ k_ < b799 ∧ k_ < b802 ∧ k_ < b810 ∧ k_ < b813 ∧ k_ < b817 ∧ k_ ≠ gb794 ∧ True) (S_not (fun k_ => (w.heap.size ≤ k_ ∧ ∃ q_, q_ ∈ 54 :: (Kd.slice 3 (Kd.int .i64)).E ∧ ∃ c_, w115.heap[k_]? = some (.cells c_ q_ (0, 0))) ∧ b781 ≤ k_ ∧ k_ < b788 ∧ k_ < b799 ∧ k_ < b802 ∧ k_ < b810 ∧ k_ < b813 ∧ k_ < b817 ∧ True) HO810.out (fun k_ h_ e_ => Nat.not_lt.2 h_.2.1 (e_.2.2.2.2.2.1))) (fun k_ h_ e_ => Nat.not_lt.2 h_.2.1 (e_.2.2.2.2.2.1)))) hkp (fun k_ hk_ hs_ => Or.elim hs_ (fun e_ => (hk_.1.2) e_) (fun e_ => (hk_.2) e_))) (fun k_ hk_ => hk_.1.1.1.2)); replace HO813 := aM (Kd.S_mono (ok' := fun k_ => k_ < b817 ∧ k_ ≠ gb794) (Kd.S_keptB ((S_not (fun k_ => (w.heap.size ≤ k_ ∧ ∃ q_, q_ ∈ 49 :: k49.E ∧ ∃ c_, w115.heap[k_]? = some (.cells c_ q_ (0, 0))) ∧ b784 ≤ k_ ∧ k_ < b788 ∧ k_ < b799 ∧ k_ < b802 ∧ k_ < b810 ∧ k_ < b813 ∧ k_ < b817 ∧ k_ ≠ gb794 ∧ True) (S_not (fun k_ => (w.heap.size ≤ k_ ∧ ∃ q_, q_ ∈ 54 :: (Kd.slice 3 (Kd.int .i64)).E ∧ ∃ c_, w115.heap[k_]? = some (.cells c_ q_ (0, 0))) ∧ b781 ≤ k_ ∧ k_ < b788 ∧ k_ < b799 ∧ k_ < b802 ∧ k_ < b810 ∧ k_ < b813 ∧ k_ < b817 ∧ True) HO813.out (fun k_ h_ e_ => Nat.not_lt.2 h_.2.1 (e_.2.2.2.2.2.2.1))) (fun k_ h_ e_ => Nat.not_lt.2 h_.2.1 (e_.2.2.2.2.2.2.1)))) hkp (fun k_ hk_ hs_ => Or.elim hs_ (fun e_ => (hk_.1.2) e_) (fun e_ => (hk_.2) e_))) (fun k_ hk_ => ⟨hk_.1.1.1.2, hk_.1.1.1.1.2⟩)); replace HO817 := aM (Kd.R_mono (ok' := fun k_ => True) (Kd.R_keptB ((R_not (fun k_ => (w.heap.size ≤ k_ ∧ ∃ q_, q_ ∈ 49 :: k49.E ∧ ∃ c_, w115.heap[k_]? = some (.cells c_ q_ (0, 0))) ∧ b784 ≤ k_ ∧ k_ < b788 ∧ k_ < b799 ∧ k_ < b802 ∧ k_ < b810 ∧ k_ < b813 ∧ k_ < b817 ∧ k_ ≠ gb794 ∧ True) (R_not (fun k_ => (w.heap.size ≤ k_ ∧ ∃ q_, q_ ∈ 54 :: (Kd.slice 3 (Kd.int .i64)).E ∧ ∃ c_, w115.heap[k_]? = some (.cells c_ q_ (0, 0))) ∧ b781 ≤ k_ ∧ k_ < b788 ∧ k_ < b799 ∧ k_ < b802 ∧ k_ < b810 ∧ k_ < b813 ∧ k_ < b817 ∧ True) HO817.out (fun k_ h_ e_ => Nat.not_lt.2 h_.2.1 (e_.2.2.2.2.2.2.2.1))) (fun k_ h_ e_ => Nat.not_lt.2 h_.2.1 (e_.2.2.2.2.2.2.2.1)))) hkp (fun k_ hk_ hs_ => Or.elim hs_ (fun e_ => (hk_.1.2) e_) (fun e_ => (hk_.2) e_))) (fun k_ hk_ => trivial)); replace HB := aM (hb); (try clear hb hkp hy0 hy1); have hz118 := cz6 BK794) | ((with_reducible refine gC 25 ?_); refine cL (some 69) Tryz.func25 #[.agg #[.slice Ao88 t786.length co88, .int .i64 t789, .int .i64 t790, .int .i64 t791, .int .i64 t792, .int .i64 t793], .int .i64 t824] ?_; (with_reducible refine (laws_markObject.calls k (fun k_ => some k_ = (.slice Ao88 t786.length co88 : Value).ownBlock) (.slice Ao88 t786.length co88) t786 t789 t790 t791 t792 t793 t824 t827 t828 w _ ?side1 ?side2 A35.out).mono ?_); (case side1 => repeat (first | (with_reducible first | exact HB.out | apply below_alloc | apply pw_below_drewN | apply below_drew1 | refine below_set ?_ GE747.out | refine below_set ?_ GE748.out | refine below_set ?_ GE776.out | refine below_set ?_ GE785.out | refine below_set ?_ GE794.out | refine below_set ?_ GE804.out) | exact HB.out)); (case side2 => exact Kd.R_lower (Kd.R_tight rfl HO788.out) HL788.out); rintro e w119 ⟨rfl, hy0, hb, hkp⟩; refine ⟨_, rfl, ?_⟩; replace BK747 := aM (blk_kept (g := gb747) kS hkp (fun hs_ => (fun e_ => (Kd.R_ne HO788.out BK747.out (by decide)) e_) hs_)); replace BK748 := aM (blk_kept (g := gb748) kS hkp (fun hs_ => (fun e_ => (Kd.R_ne HO788.out BK748.out (by decide)) e_) hs_)); replace HO755 := aM (Kd.S_mono (ok' := fun k_ => k_ < b761 ∧ k_ < b771 ∧ k_ < b774 ∧ k_ < b781 ∧ k_ < b784 ∧ k_ < b788 ∧ k_ < b799 ∧ k_ < b802 ∧ k_ < b810 ∧ k_ < b813 ∧ k_ < b817) (Kd.S_keptB ((S_not (fun k_ => some k_ = (.slice Ao88 t786.length co88 : Value).ownBlock) HO755.out (fun k_ h_ e_ => Nat.not_le.2 (h_.1.2.2.2.2.2.1) (Kd.R_base HO788.out k_ e_.symm)))) hkp (fun k_ hk_ hs_ => (hk_.2) hs_)) (fun k_ hk_ => ⟨hk_.1.1.1, hk_.1.1.2.1, hk_.1.1.2.2.1, hk_.1.1.2.2.2.1, hk_.1.1.2.2.2.2.1, hk_.1.1.2.2.2.2.2.1, hk_.1.1.2.2.2.2.2.2.1, hk_.1.1.2.2.2.2.2.2.2.1, hk_.1.1.2.2.2.2.2.2.2.2.1, hk_.1.1.2.2.2.2.2.2.2.2.2.1, hk_.1.1.2.2.2.2.2.2.2.2.2.2⟩)); replace HO758 := aM (Kd.S_mono (ok' := fun k_ => k_ < b761 ∧ k_ < b771 ∧ k_ < b774 ∧ k_ < b781 ∧ k_ < b784 ∧ k_ < b788 ∧ k_ < b799 ∧ k_ < b802 ∧ k_ < b810 ∧ k_ < b813 ∧ k_ < b817 ∧ k_ ≠ gb794) (Kd.S_keptB ((S_not (fun k_ => some k_ = (.slice Ao88 t786.length co88 : Value).ownBlock) HO758.out (fun k_ h_ e_ => Nat.not_le.2 (h_.1.2.2.2.2.2.1) (Kd.R_base HO788.out k_ e_.symm)))) hkp (fun k_ hk_ hs_ => (hk_.2) hs_)) (fun k_ hk_ => ⟨hk_.1.1.1, hk_.1.1.2.1, hk_.1.1.2.2.1, hk_.1.1.2.2.2.1, hk_.1.1.2.2.2.2.1, hk_.1.1.2.2.2.2.2.1, hk_.1.1.2.2.2.2.2.2.1, hk_.1.1.2.2.2.2.2.2.2.1, hk_.1.1.2.2.2.2.2.2.2.2.1, hk_.1.1.2.2.2.2.2.2.2.2.2.1, hk_.1.1.2.2.2.2.2.2.2.2.2.2.1, hk_.1.1.2.2.2.2.2.2.2.2.2.2.2⟩)); replace HO761 := aM (Kd.R_mono (ok' := fun k_ => k_ < b771 ∧ k_ < b774 ∧ k_ < b781 ∧ k_ < b784 ∧ k_ < b788 ∧ k_ < b799 ∧ k_ < b802 ∧ k_ < b810 ∧ k_ < b813 ∧ k_ < b817) (Kd.R_keptB ((R_not (fun k_ => some k_ = (.slice Ao88 t786.length co88 : Value).ownBlock) HO761.out (fun k_ h_ e_ => Nat.not_le.2 (h_.1.2.2.2.2.1) (Kd.R_base HO788.out k_ e_.symm)))) hkp (fun k_ hk_ hs_ => (hk_.2) hs_)) (fun k_ hk_ => ⟨hk_.1.1.1, hk_.1.1.2.1, hk_.1.1.2.2.1, hk_.1.1.2.2.2.1, hk_.1.1.2.2.2.2.1, hk_.1.1.2.2.2.2.2.1, hk_.1.1.2.2.2.2.2.2.1, hk_.1.1.2.2.2.2.2.2.2.1, hk_.1.1.2.2.2.2.2.2.2.2.1, hk_.1.1.2.2.2.2.2.2.2.2.2⟩)); replace HO771 := aM (Kd.S_mono (ok' := fun k_ => k_ < b781 ∧ k_ < b784 ∧ k_ < b788 ∧ k_ < b799 ∧ k_ < b802 ∧ k_ < b810 ∧ k_ < b813 ∧ k_ < b817) (Kd.S_keptB ((S_not (fun k_ => some k_ = (.slice Ao88 t786.length co88 : Value).ownBlock) HO771.out (fun k_ h_ e_ => Nat.not_le.2 (h_.1.2.2.1) (Kd.R_base HO788.out k_ e_.symm)))) hkp (fun k_ hk_ hs_ => (hk_.2) hs_)) (fun k_ hk_ => ⟨hk_.1.1.1, hk_.1.1.2.1, hk_.1.1.2.2.1, hk_.1.1.2.2.2.1, hk_.1.1.2.2.2.2.1, hk_.1.1.2.2.2.2.2.1, hk_.1.1.2.2.2.2.2.2.1, hk_.1.1.2.2.2.2.2.2.2⟩)); replace HO774 := aM (Kd.S_mono (ok' := fun k_ => k_ < b781 ∧ k_ < b784 ∧ k_ < b788 ∧ k_ < b799 ∧ k_ < b802 ∧ k_ < b810 ∧ k_ < b813 ∧ k_ < b817 ∧ k_ ≠ gb794) (Kd.S_keptB ((S_not (fun k_ => some k_ = (.slice Ao88 t786.length co88 : Value).ownBlock) HO774.out (fun k_ h_ e_ => Nat.not_le.2 (h_.1.2.2.1) (Kd.R_base HO788.out k_ e_.symm)))) hkp (fun k_ hk_ hs_ => (hk_.2) hs_)) (fun k_ hk_ => ⟨hk_.1.1.1, hk_.1.1.2.1, hk_.1.1.2.2.1, hk_.1.1.2.2.2.1, hk_.1.1.2.2.2.2.1, hk_.1.1.2.2.2.2.2.1, hk_.1.1.2.2.2.2.2.2.1, hk_.1.1.2.2.2.2.2.2.2.1, hk_.1.1.2.2.2.2.2.2.2.2⟩)); replace BK776 := aM (blk_kept (g := gb776) kS hkp (fun hs_ => (fun e_ => (Kd.R_ne HO788.out BK776.out (by decide)) e_) hs_)); replace BK785 := aM (blk_kept (g := gb785) kS hkp (fun hs_ => (fun e_ => (Kd.R_ne HO788.out BK785.out (by decide)) e_) hs_)); replace BK794 := aM (blk_kept (g := gb794) kS hkp (fun hs_ => (fun e_ => (Kd.R_ne HO788.out BK794.out (by decide)) e_) hs_)); replace HO799 := aM (Kd.S_mono (ok' := fun k_ => k_ < b810 ∧ k_ < b813 ∧ k_ < b817) (Kd.S_keptB ((S_not (fun k_ => some k_ = (.slice Ao88 t786.length co88 : Value).ownBlock) HO799.out (fun k_ h_ e_ => Nat.not_lt.2 h_.2.1 ((HO788.out.1 k_ e_.symm).1)))) hkp (fun k_ hk_ hs_ => (hk_.2) hs_)) (fun k_ hk_ => ⟨hk_.1.1.1, hk_.1.1.2.1, hk_.1.1.2.2⟩)); replace HO802 := aM (Kd.S_mono (ok' := fun k_ => k_ < b810 ∧ k_ < b813 ∧ k_ < b817 ∧ k_ ≠ gb794) (Kd.S_keptB ((S_not (fun k_ => some k_ = (.slice Ao88 t786.length co88 : Value).ownBlock) HO802.out (fun k_ h_ e_ => Nat.not_lt.2 h_.2.1 ((HO788.out.1 k_ e_.symm).2.1)))) hkp (fun k_ hk_ hs_ => (hk_.2) hs_)) (fun k_ hk_ => ⟨hk_.1.1.1, hk_.1.1.2.1, hk_.1.1.2.2.1, hk_.1.1.2.2.2⟩)); replace BK804 := aM (blk_kept (g := gb804) kS hkp (fun hs_ => (fun e_ => (Kd.R_ne HO788.out BK804.out (by decide)) e_) hs_)); replace HO810 := aM (Kd.S_mono (ok' := fun k_ => k_ < b817) (Kd.S_keptB ((S_not (fun k_ => some k_ = (.slice Ao88 t786.length co88 : Value).ownBlock) HO810.out (fun k_ h_ e_ => Nat.not_lt.2 h_.2.1 ((HO788.out.1 k_ e_.symm).2.2.1)))) hkp (fun k_ hk_ hs_ => (hk_.2) hs_)) (fun k_ hk_ => hk_.1.1)); replace HO813 := aM (Kd.S_mono (ok' := fun k_ => k_ < b817 ∧ k_ ≠ gb794) (Kd.S_keptB ((S_not (fun k_ => some k_ = (.slice Ao88 t786.length co88 : Value).ownBlock) HO813.out (fun k_ h_ e_ => Nat.not_lt.2 h_.2.1 ((HO788.out.1 k_ e_.symm).2.2.2.1)))) hkp (fun k_ hk_ hs_ => (hk_.2) hs_)) (fun k_ hk_ => ⟨hk_.1.1.1, hk_.1.1.2⟩)); replace HO817 := aM (Kd.R_mono (ok' := fun k_ => True) (Kd.R_keptB ((R_not (fun k_ => some k_ = (.slice Ao88 t786.length co88 : Value).ownBlock) HO817.out (fun k_ h_ e_ => Nat.not_lt.2 h_.2.1 ((HO788.out.1 k_ e_.symm).2.2.2.2)))) hkp (fun k_ hk_ hs_ => (hk_.2) hs_)) (fun k_ hk_ => trivial)); replace HO788 := aM (Kd.R_reok rfl hy0 (fun k_ e_ => HO788.out.1 k_ e_)); replace HB := aM (hb); clear HO781 HO784; (try clear hb hkp hy0); have hz120 := cz4 BK804; have hz121 := cz4 BK776) | (go_at_call 13; (with_reducible refine (laws_eqBand.calls k t795 t796 _ _ t797 _ _ t800 t767 t768 _ _ t769 _ _ t772 _ _ (cS (Kd.S_reads' HO799.out).2.2) ((Kd.S_reads' HO799.out).2.1) (cS (Kd.S_reads' HO802.out).2.2) ((Kd.S_reads' HO802.out).2.1) (cS (Kd.S_reads' HO771.out).2.2) ((Kd.S_reads' HO771.out).2.1) (cS (Kd.S_reads' HO774.out).2.2) ((Kd.S_reads' HO774.out).2.1) A37.out).mono ?_); rintro e w122 ⟨rfl, hb⟩; replace HO755 := sB HO755 hb; replace HO758 := sB HO758 hb; replace HO761 := aM (Kd.R_below (rS HO761) hb); replace HO771 := sB HO771 hb; replace HO774 := sB HO774 hb; replace HO788 := aM (Kd.R_below (rS HO788) hb); replace HO799 := sB HO799 hb; replace HO802 := sB HO802 hb; replace HO810 := sB HO810 hb; replace HO813 := sB HO813 hb; replace HO817 := aM (Kd.R_below (rS HO817) hb); replace BK747 := kB_ gb747 hb; replace BK748 := kB_ gb748 hb; replace BK776 := kB_ gb776 hb; replace BK785 := kB_ gb785 hb; replace BK794 := kB_ gb794 hb; replace BK804 := kB_ gb804 hb; replace HB := hB hb; (try clear hb); have hz123 := cz4 BK804) | ((with_reducible refine gC 14 ?_); refine cL (some 85) Tryz.func14 #[.agg #[.int .i64 t795, .int .i64 t796, .slice Ao103 t797.length co103, .slice Ao104 t800.length co104], .int .i64 1] ?_; (with_reducible refine (laws_markBand.calls k t795 t796 (fun k_ => (w.heap.size ≤ k_ ∧ ∃ q_, q_ ∈ 54 :: (Kd.slice 3 (Kd.int .i64)).E ∧ ∃ c_, w122.heap[k_]? = some (.cells c_ q_ (0, 0))) ∧ b799 ≤ k_ ∧ k_ < b810 ∧ k_ < b813 ∧ k_ < b817 ∧ True) (.slice Ao103 t797.length co103) t797 (fun k_ => (w.heap.size ≤ k_ ∧ ∃ q_, q_ ∈ 49 :: k49.E ∧ ∃ c_, w122.heap[k_]? = some (.cells c_ q_ (0, 0))) ∧ b802 ≤ k_ ∧ k_ < b810 ∧ k_ < b813 ∧ k_ < b817 ∧ k_ ≠ gb794 ∧ True) (.slice Ao104 t800.length co104) t800 1 t830 t831 t832 w _ ?side1 ?side2 ?side3 A39.out).mono ?_); (case side1 => repeat (first | (with_reducible first | exact HB.out | apply below_alloc | apply pw_below_drewN | apply below_drew1 | refine below_set ?_ GE747.out | refine below_set ?_ GE748.out | refine below_set ?_ GE776.out | refine below_set ?_ GE785.out | refine below_set ?_ GE794.out | refine below_set ?_ GE804.out) | exact HB.out)); (case side2 => (with_reducible repeat (first | apply Kd.S_alloc | apply Kd.S_drewN | apply Kd.S_drew)); exact Kd.S_lower (Kd.S_mono (Kd.S_bound HO799.out) (fun k_ h_ => ⟨⟨Nat.le_trans HL799.out h_.2.1, h_.2.2.2⟩, h_.2.1, h_.1.1, h_.1.2.1, h_.1.2.2, trivial⟩)) HL799.out); (case side3 => (with_reducible repeat (first | apply Kd.S_alloc | apply Kd.S_drewN | apply Kd.S_drew)); exact Kd.S_lower (Kd.S_mono (Kd.S_bound HO802.out) (fun k_ h_ => ⟨⟨Nat.le_trans HL802.out h_.2.1, h_.2.2.2⟩, h_.2.1, h_.1.1, h_.1.2.1, h_.1.2.2.1, h_.1.2.2.2, trivial⟩)) HL802.out); rintro e w124 ⟨rfl, hy0, hy1, hb, hkp⟩; refine ⟨_, rfl, ?_⟩; replace BK747 := bM (g := gb747) hkp; replace BK748 := bM (g := gb748) hkp; replace HO755 := aM (Kd.S_mono (ok' := fun k_ => k_ < b761 ∧ k_ < b771 ∧ k_ < b774 ∧ k_ < b788 ∧ k_ < b799 ∧ k_ < b802 ∧ k_ < b810 ∧ k_ < b813 ∧ k_ < b817) (Kd.S_keptB ((S_not (fun k_ => (w.heap.size ≤ k_ ∧ ∃ q_, q_ ∈ 49 :: k49.E ∧ ∃ c_, w122.heap[k_]? = some (.cells c_ q_ (0, 0))) ∧ b802 ≤ k_ ∧ k_ < b810 ∧ k_ < b813 ∧ k_ < b817 ∧ k_ ≠ gb794 ∧ True) (S_not (fun k_ => (w.heap.size ≤ k_ ∧ ∃ q_, q_ ∈ 54 :: (Kd.slice 3 (Kd.int .i64)).E ∧ ∃ c_, w122.heap[k_]? = some (.cells c_ q_ (0, 0))) ∧ b799 ≤ k_ ∧ k_ < b810 ∧ k_ < b813 ∧ k_ < b817 ∧ True) HO755.out (fun k_ h_ e_ => Nat.not_le.2 (h_.1.2.2.2.2.2.2.1) e_.2.1)) (fun k_ h_ e_ => Nat.not_le.2 (h_.1.1.2.2.2.2.2.2.2.1) e_.2.1))) hkp (fun k_ hk_ hs_ => Or.elim hs_ (fun e_ => (hk_.1.2) e_) (fun e_ => (hk_.2) e_))) (fun k_ hk_ => ⟨hk_.1.1.1.1, hk_.1.1.1.2.1, hk_.1.1.1.2.2.1, hk_.1.1.1.2.2.2.2.2.1, hk_.1.1.1.2.2.2.2.2.2.1, hk_.1.1.1.2.2.2.2.2.2.2.1, hk_.1.1.1.2.2.2.2.2.2.2.2.1, hk_.1.1.1.2.2.2.2.2.2.2.2.2.1, hk_.1.1.1.2.2.2.2.2.2.2.2.2.2⟩)); replace HO758 := aM (Kd.S_mono (ok' := fun k_ => k_ < b761 ∧ k_ < b771 ∧ k_ < b774 ∧ k_ < b788 ∧ k_ < b799 ∧ k_ < b802 ∧ k_ < b810 ∧ k_ < b813 ∧ k_ < b817 ∧ k_ ≠ gb794) (Kd.S_keptB ((S_not (fun k_ => (w.heap.size ≤ k_ ∧ ∃ q_, q_ ∈ 49 :: k49.E ∧ ∃ c_, w122.heap[k_]? = some (.cells c_ q_ (0, 0))) ∧ b802 ≤ k_ ∧ k_ < b810 ∧ k_ < b813 ∧ k_ < b817 ∧ k_ ≠ gb794 ∧ True) (S_not (fun k_ => (w.heap.size ≤ k_ ∧ ∃ q_, q_ ∈ 54 :: (Kd.slice 3 (Kd.int .i64)).E ∧ ∃ c_, w122.heap[k_]? = some (.cells c_ q_ (0, 0))) ∧ b799 ≤ k_ ∧ k_ < b810 ∧ k_ < b813 ∧ k_ < b817 ∧ True) HO758.out (fun k_ h_ e_ => Nat.not_le.2 (h_.1.2.2.2.2.2.2.1) e_.2.1)) (fun k_ h_ e_ => Nat.not_le.2 (h_.1.1.2.2.2.2.2.2.2.1) e_.2.1))) hkp (fun k_ hk_ hs_ => Or.elim hs_ (fun e_ => (hk_.1.2) e_) (fun e_ => (hk_.2) e_))) (fun k_ hk_ => ⟨hk_.1.1.1.1, hk_.1.1.1.2.1, hk_.1.1.1.2.2.1, hk_.1.1.1.2.2.2.2.2.1, hk_.1.1.1.2.2.2.2.2.2.1, hk_.1.1.1.2.2.2.2.2.2.2.1, hk_.1.1.1.2.2.2.2.2.2.2.2.1, hk_.1.1.1.2.2.2.2.2.2.2.2.2.1, hk_.1.1.1.2.2.2.2.2.2.2.2.2.2.1, hk_.1.1.1.2.2.2.2.2.2.2.2.2.2.2⟩)); replace HO761 := aM (Kd.R_mono (ok' := fun k_ => k_ < b771 ∧ k_ < b774 ∧ k_ < b788 ∧ k_ < b799 ∧ k_ < b802 ∧ k_ < b810 ∧ k_ < b813 ∧ k_ < b817) (Kd.R_keptB ((R_not (fun k_ => (w.heap.size ≤ k_ ∧ ∃ q_, q_ ∈ 49 :: k49.E ∧ ∃ c_, w122.heap[k_]? = some (.cells c_ q_ (0, 0))) ∧ b802 ≤ k_ ∧ k_ < b810 ∧ k_ < b813 ∧ k_ < b817 ∧ k_ ≠ gb794 ∧ True) (R_not (fun k_ => (w.heap.size ≤ k_ ∧ ∃ q_, q_ ∈ 54 :: (Kd.slice 3 (Kd.int .i64)).E ∧ ∃ c_, w122.heap[k_]? = some (.cells c_ q_ (0, 0))) ∧ b799 ≤ k_ ∧ k_ < b810 ∧ k_ < b813 ∧ k_ < b817 ∧ True) HO761.out (fun k_ h_ e_ => Nat.not_le.2 (h_.1.2.2.2.2.2.1) e_.2.1)) (fun k_ h_ e_ => Nat.not_le.2 (h_.1.1.2.2.2.2.2.2.1) e_.2.1))) hkp (fun k_ hk_ hs_ => Or.elim hs_ (fun e_ => (hk_.1.2) e_) (fun e_ => (hk_.2) e_))) (fun k_ hk_ => ⟨hk_.1.1.1.1, hk_.1.1.1.2.1, hk_.1.1.1.2.2.2.2.1, hk_.1.1.1.2.2.2.2.2.1, hk_.1.1.1.2.2.2.2.2.2.1, hk_.1.1.1.2.2.2.2.2.2.2.1, hk_.1.1.1.2.2.2.2.2.2.2.2.1, hk_.1.1.1.2.2.2.2.2.2.2.2.2⟩)); replace HO771 := aM (Kd.S_mono (ok' := fun k_ => k_ < b788 ∧ k_ < b799 ∧ k_ < b802 ∧ k_ < b810 ∧ k_ < b813 ∧ k_ < b817) (Kd.S_keptB ((S_not (fun k_ => (w.heap.size ≤ k_ ∧ ∃ q_, q_ ∈ 49 :: k49.E ∧ ∃ c_, w122.heap[k_]? = some (.cells c_ q_ (0, 0))) ∧ b802 ≤ k_ ∧ k_ < b810 ∧ k_ < b813 ∧ k_ < b817 ∧ k_ ≠ gb794 ∧ True) (S_not (fun k_ => (w.heap.size ≤ k_ ∧ ∃ q_, q_ ∈ 54 :: (Kd.slice 3 (Kd.int .i64)).E ∧ ∃ c_, w122.heap[k_]? = some (.cells c_ q_ (0, 0))) ∧ b799 ≤ k_ ∧ k_ < b810 ∧ k_ < b813 ∧ k_ < b817 ∧ True) HO771.out (fun k_ h_ e_ => Nat.not_le.2 (h_.1.2.2.2.1) e_.2.1)) (fun k_ h_ e_ => Nat.not_le.2 (h_.1.1.2.2.2.2.1) e_.2.1))) hkp (fun k_ hk_ hs_ => Or.elim hs_ (fun e_ => (hk_.1.2) e_) (fun e_ => (hk_.2) e_))) (fun k_ hk_ => ⟨hk_.1.1.1.2.2.1, hk_.1.1.1.2.2.2.1, hk_.1.1.1.2.2.2.2.1, hk_.1.1.1.2.2.2.2.2.1, hk_.1.1.1.2.2.2.2.2.2.1, hk_.1.1.1.2.2.2.2.2.2.2⟩)); replace HO774 := aM (Kd.S_mono (ok' := fun k_ => k_ < b788 ∧ k_ < b799 ∧ k_ < b802 ∧ k_ < b810 ∧ k_ < b813 ∧ k_ < b817 ∧ k_ ≠ gb794) (Kd.S_keptB ((S_not (fun k_ => (w.heap.size ≤ k_ ∧ ∃ q_, q_ ∈ 49 :: k49.E ∧ ∃ c_, w122.heap[k_]? = some (.cells c_ q_ (0, 0))) ∧ b802 ≤ k_ ∧ k_ < b810 ∧ k_ < b813 ∧ k_ < b817 ∧ k_ ≠ gb794 ∧ True) (S_not (fun k_ => (w.heap.size ≤ k_ ∧ ∃ q_, q_ ∈ 54 :: (Kd.slice 3 (Kd.int .i64)).E ∧ ∃ c_, w122.heap[k_]? = some (.cells c_ q_ (0, 0))) ∧ b799 ≤ k_ ∧ k_ < b810 ∧ k_ < b813 ∧ k_ < b817 ∧ True) HO774.out (fun k_ h_ e_ => Nat.not_le.2 (h_.1.2.2.2.1) e_.2.1)) (fun k_ h_ e_ => Nat.not_le.2 (h_.1.1.2.2.2.2.1) e_.2.1))) hkp (fun k_ hk_ hs_ => Or.elim hs_ (fun e_ => (hk_.1.2) e_) (fun e_ => (hk_.2) e_))) (fun k_ hk_ => ⟨hk_.1.1.1.2.2.1, hk_.1.1.1.2.2.2.1, hk_.1.1.1.2.2.2.2.1, hk_.1.1.1.2.2.2.2.2.1, hk_.1.1.1.2.2.2.2.2.2.1, hk_.1.1.1.2.2.2.2.2.2.2.1, hk_.1.1.1.2.2.2.2.2.2.2.2⟩)); replace BK776 := bM (g := gb776) hkp; replace BK785 := bM (g := gb785) hkp; replace BK794 := bM (g := gb794) hkp; replace HO799 := aM (Kd.S_mono (ok' := fun _ => True) hy0 (fun _ _ => trivial)); replace HO802 := aM (Kd.S_mono (ok' := fun _ => True) hy1 (fun _ _ => trivial)); replace BK804 := bM (g := gb804) hkp; replace HO810 := aM (Kd.S_mono (ok' := fun k_ => k_ < b817) (Kd.S_keptB ((S_not (fun k_ => (w.heap.size ≤ k_ ∧ ∃ q_, q_ ∈ 49 :: k49.E ∧ ∃ c_, w122.heap[k_]? = some (.cells c_ q_ (0, 0))) ∧ b802 ≤ k_ ∧ k_ < b810 ∧ k_ < b813 ∧ k_ < b817 ∧ k_ ≠ gb794 ∧ True) (S_not (fun k_ => (w.heap.size ≤ k_ ∧ ∃ q_, q_ ∈ 54 :: (Kd.slice 3 (Kd.int .i64)).E ∧ ∃ c_, w122.heap[k_]? = some (.cells c_ q_ (0, 0))) ∧ b799 ≤ k_ ∧ k_ < b810 ∧ k_ < b813 ∧ k_ < b817 ∧ True) HO810.out (fun k_ h_ e_ => Nat.not_lt.2 h_.2.1 (e_.2.2.1))) (fun k_ h_ e_ => Nat.not_lt.2 h_.2.1 (e_.2.2.1)))) hkp (fun k_ hk_ hs_ => Or.elim hs_ (fun e_ => (hk_.1.2) e_) (fun e_ => (hk_.2) e_))) (fun k_ hk_ => hk_.1.1.1)); replace HO813 := aM (Kd.S_mono (ok' := fun k_ => k_ < b817 ∧ k_ ≠ gb794) (Kd.S_keptB ((S_not (fun k_ => (w.heap.size ≤ k_ ∧ ∃ q_, q_ ∈ 49 :: k49.E ∧ ∃ c_, w122.heap[k_]? = some (.cells c_ q_ (0, 0))) ∧ b802 ≤ k_ ∧ k_ < b810 ∧ k_ < b813 ∧ k_ < b817 ∧ k_ ≠ gb794 ∧ True) (S_not (fun k_ => (w.heap.size ≤ k_ ∧ ∃ q_, q_ ∈ 54 :: (Kd.slice 3 (Kd.int .i64)).E ∧ ∃ c_, w122.heap[k_]? = some (.cells c_ q_ (0, 0))) ∧ b799 ≤ k_ ∧ k_ < b810 ∧ k_ < b813 ∧ k_ < b817 ∧ True) HO813.out (fun k_ h_ e_ => Nat.not_lt.2 h_.2.1 (e_.2.2.2.1))) (fun k_ h_ e_ => Nat.not_lt.2 h_.2.1 (e_.2.2.2.1)))) hkp (fun k_ hk_ hs_ => Or.elim hs_ (fun e_ => (hk_.1.2) e_) (fun e_ => (hk_.2) e_))) (fun k_ hk_ => ⟨hk_.1.1.1.1, hk_.1.1.1.2⟩)); replace HO817 := aM (Kd.R_mono (ok' := fun k_ => True) (Kd.R_keptB ((R_not (fun k_ => (w.heap.size ≤ k_ ∧ ∃ q_, q_ ∈ 49 :: k49.E ∧ ∃ c_, w122.heap[k_]? = some (.cells c_ q_ (0, 0))) ∧ b802 ≤ k_ ∧ k_ < b810 ∧ k_ < b813 ∧ k_ < b817 ∧ k_ ≠ gb794 ∧ True) (R_not (fun k_ => (w.heap.size ≤ k_ ∧ ∃ q_, q_ ∈ 54 :: (Kd.slice 3 (Kd.int .i64)).E ∧ ∃ c_, w122.heap[k_]? = some (.cells c_ q_ (0, 0))) ∧ b799 ≤ k_ ∧ k_ < b810 ∧ k_ < b813 ∧ k_ < b817 ∧ True) HO817.out (fun k_ h_ e_ => Nat.not_lt.2 h_.2.1 (e_.2.2.2.2.1))) (fun k_ h_ e_ => Nat.not_lt.2 h_.2.1 (e_.2.2.2.2.1)))) hkp (fun k_ hk_ hs_ => Or.elim hs_ (fun e_ => (hk_.1.2) e_) (fun e_ => (hk_.2) e_))) (fun k_ hk_ => trivial)); replace HB := aM (hb); clear HO788; (try clear hb hkp hy0 hy1); have hz125 := cz4 BK804) | ((with_reducible refine gC 19 ?_); refine goesL_ (some 88) rfl rfl Tryz.func19 (by kernel_rfl) rfl #[.agg #[.int .i64 t795, .int .i64 t796, .slice Ao103 t831.length co103, .slice Ao104 t832.length co104], .int .i64 1] rfl (by (try simp only [List.map_toArray, List.map_cons, List.map_nil]); first | done | (rw [show t831.length = t797.length from (Kd.S_reads' HO799.out).1.symm, show t832.length = t800.length from (Kd.S_reads' HO802.out).1.symm] <;> rfl) | rfl | (simp only [List.length_drop, List.length_take]; rfl)) ?_; (with_reducible refine (laws_heldBand.calls k t795 t796 _ _ t831 _ _ t832 1 t833 _ ?side1 ?side2 ?side3 ?side4 A40.out).mono ?_); (case side1 => exact cS (Kd.S_reads' HO799.out).2.2); (case side2 => rw [show t831.length = t797.length from (Kd.S_reads' HO799.out).1.symm]; exact (Kd.S_reads' HO799.out).2.1); (case side3 => exact cS (Kd.S_reads' HO802.out).2.2); (case side4 => rw [show t832.length = t800.length from (Kd.S_reads' HO802.out).1.symm]; exact (Kd.S_reads' HO802.out).2.1); rintro e w126 ⟨rfl, hb⟩; refine ⟨_, rfl, ?_⟩; replace HO755 := sB HO755 hb; replace HO758 := sB HO758 hb; replace HO761 := aM (Kd.R_below (rS HO761) hb); replace HO771 := sB HO771 hb; replace HO774 := sB HO774 hb; replace HO799 := sB HO799 hb; replace HO802 := sB HO802 hb; replace HO810 := sB HO810 hb; replace HO813 := sB HO813 hb; replace HO817 := aM (Kd.R_below (rS HO817) hb); replace BK747 := kB_ gb747 hb; replace BK748 := kB_ gb748 hb; replace BK776 := kB_ gb776 hb; replace BK785 := kB_ gb785 hb; replace BK794 := kB_ gb794 hb; replace BK804 := kB_ gb804 hb; replace HB := hB hb; (try clear hb)))
        replace HO755 := aM (Kd.S_drew HO755.out)
        replace HO758 := aM (Kd.S_drew HO758.out)
        replace HO761 := aM (Kd.R_drew HO761.out)
        replace HO771 := aM (Kd.S_drew HO771.out)
        replace HO774 := aM (Kd.S_drew HO774.out)
        replace HO799 := aM (Kd.S_drew HO799.out)
        replace HO802 := aM (Kd.S_drew HO802.out)
        replace HO810 := aM (Kd.S_drew HO810.out)
        replace HO813 := aM (Kd.S_drew HO813.out)
        replace HO817 := aM (Kd.R_drew HO817.out)
        replace BK747 := aM (blk_drew BK747.out)
        replace BK748 := aM (blk_drew BK748.out)
        replace BK776 := aM (blk_drew BK776.out)
        replace BK785 := aM (blk_drew BK785.out)
        replace BK794 := aM (blk_drew BK794.out)
        replace BK804 := aM (blk_drew BK804.out)
        replace HB := aM (below_drew1 HB.out)
        refine start_ (n := 11) (S := fun w' => w'.cell? ⟨gb747, 0, none⟩ = some (.int .i64 a0_0) ∧ w'.cell? ⟨gb747, 1, none⟩ = some (.int .i64 a0_1) ∧ w'.cell? ⟨gb747, 2, none⟩ = some (.slice A0_2 l0_2.length c0_2) ∧ w'.cell? ⟨gb747, 3, none⟩ = some (.slice A0_3 l0_3.length c0_3) ∧ w'.cell? ⟨gb748, 0, none⟩ = some (.slice A1_0 l1_0.length c1_0) ∧ w'.cell? ⟨gb748, 1, none⟩ = some (.int .i64 a1_1) ∧ w'.cell? ⟨gb748, 2, none⟩ = some (.int .i64 a1_2) ∧ w'.cell? ⟨gb748, 3, none⟩ = some (.int .i64 a1_3) ∧ w'.cell? ⟨gb748, 4, none⟩ = some (.int .i64 a1_4) ∧ w'.cell? ⟨gb748, 5, none⟩ = some (.int .i64 a1_5)) (ds := []) (mB 11 0) (by kernel_rfl) rfl rfl (cx4 BK747 (cy6 BK748)) (fun hHeld => ?_); refine with_tabW laws_FnExactAddToBand.tab31 laws_FnExactAddToBand.bits31 (fun HT_ HW_ => ?_)
        generalize w126.drew = w127 at HO755 HO758 HO761 HO771 HO774 HO799 HO802 HO810 HO813 HO817 BK747 BK748 BK776 BK785 BK794 BK804 HB hHeld ⊢
        refine tK 0 (some 95) (mB 11 1) ?_
        refine tK 2 (some 97) (mB 11 5) ?_
        refine join_ (σ := Value × Value × Nat × Nat × Value × Nat × Value × Value × Nat × Nat × Nat) 2 (mB 11 511) (fun s_ => [(96, .agg #[.int .i64 t834, .int .i64 t835, s_.1, s_.2.1]), (98, .agg #[s_.2.2.2.2.1, .int .i64 t845, .int .i64 t846, .int .i64 t847, .int .i64 t848, .int .i64 t849]), (99, .tuple #[.agg #[.int .i64 t850, .int .i64 t851, s_.2.2.2.2.2.2.1, s_.2.2.2.2.2.2.2.1], .bool t858]), (15, .pointer (some ⟨s_.2.2.2.2.2.2.2.2.2.2, 0, none⟩)), (94, .tuple #[.agg #[.int .i64 t850, .int .i64 t851, s_.2.2.2.2.2.2.1, s_.2.2.2.2.2.2.2.1], .bool t858]), (100, .agg #[.int .i64 t850, .int .i64 t851, s_.2.2.2.2.2.2.1, s_.2.2.2.2.2.2.2.1]), (101, .bool t858)]) (fun s_ w' => (w'.cell? ⟨gb747, 0, none⟩ = some (.int .i64 a0_0) ∧ w'.cell? ⟨gb747, 1, none⟩ = some (.int .i64 a0_1) ∧ w'.cell? ⟨gb747, 2, none⟩ = some (.slice A0_2 l0_2.length c0_2) ∧ w'.cell? ⟨gb747, 3, none⟩ = some (.slice A0_3 l0_3.length c0_3) ∧ w'.cell? ⟨gb748, 0, none⟩ = some (.slice A1_0 l1_0.length c1_0) ∧ w'.cell? ⟨gb748, 1, none⟩ = some (.int .i64 a1_1) ∧ w'.cell? ⟨gb748, 2, none⟩ = some (.int .i64 a1_2) ∧ w'.cell? ⟨gb748, 3, none⟩ = some (.int .i64 a1_3) ∧ w'.cell? ⟨gb748, 4, none⟩ = some (.int .i64 a1_4) ∧ w'.cell? ⟨gb748, 5, none⟩ = some (.int .i64 a1_5)) ∧ (Kd.S (Kd.slice 3 (Kd.int .i64)) 54 w' b755 (fun k_ => k_ < b761 ∧ k_ < b771 ∧ k_ < b774 ∧ k_ < b799 ∧ k_ < b802 ∧ k_ < b810 ∧ k_ < b813 ∧ k_ < b817 ∧ k_ < s_.2.2.1 ∧ k_ < s_.2.2.2.1 ∧ k_ < s_.2.2.2.2.2.1 ∧ k_ < s_.2.2.2.2.2.2.2.2.1 ∧ k_ < s_.2.2.2.2.2.2.2.2.2.1) v754 t753) ∧ (Kd.S k49 49 w' b758 (fun k_ => k_ < b761 ∧ k_ < b771 ∧ k_ < b774 ∧ k_ < b799 ∧ k_ < b802 ∧ k_ < b810 ∧ k_ < b813 ∧ k_ < b817 ∧ k_ < s_.2.2.1 ∧ k_ < s_.2.2.2.1 ∧ k_ < s_.2.2.2.2.2.1 ∧ k_ < s_.2.2.2.2.2.2.2.2.1 ∧ k_ < s_.2.2.2.2.2.2.2.2.2.1 ∧ k_ ≠ gb794) v757 t756) ∧ (Kd.R k151 151 w' b761 (fun k_ => k_ < b771 ∧ k_ < b774 ∧ k_ < b799 ∧ k_ < b802 ∧ k_ < b810 ∧ k_ < b813 ∧ k_ < b817 ∧ k_ < s_.2.2.1 ∧ k_ < s_.2.2.2.1 ∧ k_ < s_.2.2.2.2.2.1 ∧ k_ < s_.2.2.2.2.2.2.2.2.1 ∧ k_ < s_.2.2.2.2.2.2.2.2.2.1) v760 t759) ∧ (Kd.S (Kd.slice 3 (Kd.int .i64)) 54 w' b771 (fun k_ => k_ < b799 ∧ k_ < b802 ∧ k_ < b810 ∧ k_ < b813 ∧ k_ < b817 ∧ k_ < s_.2.2.1 ∧ k_ < s_.2.2.2.1 ∧ k_ < s_.2.2.2.2.2.1 ∧ k_ < s_.2.2.2.2.2.2.2.2.1 ∧ k_ < s_.2.2.2.2.2.2.2.2.2.1) (.slice Ao70 t769.length co70) t769) ∧ (Kd.S k49 49 w' b774 (fun k_ => k_ < b799 ∧ k_ < b802 ∧ k_ < b810 ∧ k_ < b813 ∧ k_ < b817 ∧ k_ < s_.2.2.1 ∧ k_ < s_.2.2.2.1 ∧ k_ < s_.2.2.2.2.2.1 ∧ k_ < s_.2.2.2.2.2.2.2.2.1 ∧ k_ < s_.2.2.2.2.2.2.2.2.2.1 ∧ k_ ≠ gb794) (.slice Ao72 t772.length co72) t772) ∧ (Kd.S (Kd.slice 3 (Kd.int .i64)) 54 w' w.heap.size (fun k_ => k_ < s_.2.2.1 ∧ k_ < s_.2.2.2.1 ∧ k_ < s_.2.2.2.2.2.1 ∧ k_ < s_.2.2.2.2.2.2.2.2.1 ∧ k_ < s_.2.2.2.2.2.2.2.2.2.1) (.slice Ao103 t797.length co103) t831) ∧ (Kd.S k49 49 w' w.heap.size (fun k_ => k_ < s_.2.2.1 ∧ k_ < s_.2.2.2.1 ∧ k_ < s_.2.2.2.2.2.1 ∧ k_ < s_.2.2.2.2.2.2.2.2.1 ∧ k_ < s_.2.2.2.2.2.2.2.2.2.1) (.slice Ao104 t800.length co104) t832) ∧ (Kd.S (Kd.slice 3 (Kd.int .i64)) 54 w' b810 (fun k_ => k_ < b817 ∧ k_ < s_.2.2.1 ∧ k_ < s_.2.2.2.1 ∧ k_ < s_.2.2.2.2.2.1 ∧ k_ < s_.2.2.2.2.2.2.2.2.1 ∧ k_ < s_.2.2.2.2.2.2.2.2.2.1) (.slice Ao109 t808.length co109) t808) ∧ (Kd.S k49 49 w' b813 (fun k_ => k_ < b817 ∧ k_ < s_.2.2.1 ∧ k_ < s_.2.2.2.1 ∧ k_ < s_.2.2.2.2.2.1 ∧ k_ < s_.2.2.2.2.2.2.2.2.1 ∧ k_ < s_.2.2.2.2.2.2.2.2.2.1 ∧ k_ ≠ gb794) (.slice Ao110 t811.length co110) t811) ∧ (Kd.R k151 151 w' b817 (fun k_ => k_ < s_.2.2.1 ∧ k_ < s_.2.2.2.1 ∧ k_ < s_.2.2.2.2.2.1 ∧ k_ < s_.2.2.2.2.2.2.2.2.1 ∧ k_ < s_.2.2.2.2.2.2.2.2.2.1) (.slice Ao114 t815.length co114) t815) ∧ (Kd.S (Kd.slice 3 (Kd.int .i64)) 54 w' s_.2.2.1 (fun k_ => k_ < s_.2.2.2.2.2.1 ∧ k_ < s_.2.2.2.2.2.2.2.2.1 ∧ k_ < s_.2.2.2.2.2.2.2.2.2.1) s_.1 t836) ∧ (Kd.S k49 49 w' s_.2.2.2.1 (fun k_ => k_ < s_.2.2.2.2.2.1 ∧ k_ < s_.2.2.2.2.2.2.2.2.1 ∧ k_ < s_.2.2.2.2.2.2.2.2.2.1 ∧ k_ ≠ gb794) s_.2.1 t839) ∧ (Kd.R k151 151 w' s_.2.2.2.2.2.1 (fun k_ => k_ < s_.2.2.2.2.2.2.2.2.1 ∧ k_ < s_.2.2.2.2.2.2.2.2.2.1) s_.2.2.2.2.1 t842) ∧ (Kd.S (Kd.slice 3 (Kd.int .i64)) 54 w' s_.2.2.2.2.2.2.2.2.1 (fun _ => True) s_.2.2.2.2.2.2.1 t852) ∧ (Kd.S k49 49 w' s_.2.2.2.2.2.2.2.2.2.1 (fun k_ => k_ ≠ gb794) s_.2.2.2.2.2.2.2.1 t855) ∧ (w.heap.size ≤ s_.2.2.1) ∧ (w.heap.size ≤ s_.2.2.2.1) ∧ (w.heap.size ≤ s_.2.2.2.2.2.1) ∧ (w.heap.size ≤ s_.2.2.2.2.2.2.2.2.1) ∧ (w.heap.size ≤ s_.2.2.2.2.2.2.2.2.2.1) ∧ (w'.heap[gb747]? = some (.cells #[.int .i64 a0_0, .int .i64 a0_1, .slice A0_2 l0_2.length c0_2, .slice A0_3 l0_3.length c0_3] 25 (0, 0))) ∧ (w'.heap[gb748]? = some (.cells #[.slice A1_0 l1_0.length c1_0, .int .i64 a1_1, .int .i64 a1_2, .int .i64 a1_3, .int .i64 a1_4, .int .i64 a1_5] 42 (0, 0))) ∧ (w'.heap[gb776]? = some (.cells #[.int .i64 t767, .int .i64 t768, .slice Ao70 t769.length co70, .slice Ao72 t772.length co72] 30 (0, 0))) ∧ (w'.heap[gb785]? = some (.cells #[.int .i64 t777, .int .i64 t778, .slice Ao82 t779.length co82, .slice Ao83 t782.length co83] 30 (0, 0))) ∧ (w'.heap[gb794]? = some (.cells #[.slice Ao88 t786.length co88, .int .i64 t789, .int .i64 t790, .int .i64 t791, .int .i64 t792, .int .i64 t793] 49 (0, 0))) ∧ (w'.heap[gb804]? = some (.cells #[.int .i64 t795, .int .i64 t796, .slice Ao103 t797.length co103, .slice Ao104 t800.length co104] 30 (0, 0))) ∧ (w'.heap[s_.2.2.2.2.2.2.2.2.2.2]? = some (.cells #[.int .i64 0, .int .i64 0, .slice none 0 0, .slice none 0 0] 30 (0, 0))) ∧ (w.heap.size ≤ s_.2.2.2.2.2.2.2.2.2.2) ∧ (w.heap.size ≤ s_.2.2.2.2.2.2.2.2.2.2) ∧ (gb747 ≠ s_.2.2.2.2.2.2.2.2.2.2) ∧ (s_.2.2.2.2.2.2.2.2.2.2 ≠ gb747) ∧ (gb748 ≠ s_.2.2.2.2.2.2.2.2.2.2) ∧ (s_.2.2.2.2.2.2.2.2.2.2 ≠ gb748) ∧ (gb776 ≠ s_.2.2.2.2.2.2.2.2.2.2) ∧ (s_.2.2.2.2.2.2.2.2.2.2 ≠ gb776) ∧ (gb785 ≠ s_.2.2.2.2.2.2.2.2.2.2) ∧ (s_.2.2.2.2.2.2.2.2.2.2 ≠ gb785) ∧ (gb794 ≠ s_.2.2.2.2.2.2.2.2.2.2) ∧ (s_.2.2.2.2.2.2.2.2.2.2 ≠ gb794) ∧ (gb804 ≠ s_.2.2.2.2.2.2.2.2.2.2) ∧ (s_.2.2.2.2.2.2.2.2.2.2 ≠ gb804) ∧ (Below w.heap.size w w')) ?_ ?_
        rotate_left
        ·intro hCont
         refine two_ (i := 1) (j := 8) (Ni := some 96) (Nj := some 15) (mB 11 7) (mB 11 261) rfl rfl rfl rfl (two_of HT_.out (by kernel_rfl)) (by decide) (by decide) (fun K hK => ?_) (fun K hK => ?_)
         ·skip
          refine goes_ Tryz.func10 (by kernel_rfl) rfl #[.agg #[.int .i64 a0_0, .int .i64 a0_1, .slice A0_2 l0_2.length c0_2, .slice A0_3 l0_3.length c0_3]] (by rfl) rfl rfl mA ?_
          with_reducible refine (laws_toBand.calls k a0_0 a0_1 _ _ l0_2 _ _ l0_3 t834 t835 t836 t839 _ ?side1 ?side2 ?side3 ?side4 A43.out).mono ?_
          (case side1 => exact cS (Kd.C_below HR0_2.out HB.out))
          (case side2 => exact HC0_2.out)
          (case side3 => exact cS (Kd.C_below HR0_3.out HB.out))
          (case side4 => exact HC0_3.out)
          rintro e w128 ⟨v837, v840, rfl, ho0, ho1, hb⟩
          refine ⟨_, rfl, ?_⟩
          obtain ⟨b838, HZ838, hz838⟩ := S_born ho0
          have HL838 := aM (show w.heap.size ≤ b838 from by rw [HZ838.out]; exact (below_size bS))
          obtain ⟨b841, HZ841, hz841⟩ := S_born (Kd.S_newB ho1 (g := gb794) kS)
          have HL841 := aM (show w.heap.size ≤ b841 from by rw [HZ841.out]; exact (below_size bS))
          have HO838 := aM (hz838)
          have HO841 := aM (hz841)
          replace HO755 := aM (S_ltB (S_oldB (sS HO755) hb HZ838.out) HZ838.out HZ841.out)
          replace HO758 := aM (S_ltB (S_oldB (sS HO758) hb HZ838.out) HZ838.out HZ841.out)
          replace HO761 := aM (R_ltB (R_oldB (rS HO761) hb HZ838.out) HZ838.out HZ841.out)
          replace HO771 := aM (S_ltB (S_oldB (sS HO771) hb HZ838.out) HZ838.out HZ841.out)
          replace HO774 := aM (S_ltB (S_oldB (sS HO774) hb HZ838.out) HZ838.out HZ841.out)
          replace HO799 := aM (S_ltB (S_oldB (sS HO799) hb HZ838.out) HZ838.out HZ841.out)
          replace HO802 := aM (S_ltB (S_oldB (sS HO802) hb HZ838.out) HZ838.out HZ841.out)
          replace HO810 := aM (S_ltB (S_oldB (sS HO810) hb HZ838.out) HZ838.out HZ841.out)
          replace HO813 := aM (S_ltB (S_oldB (sS HO813) hb HZ838.out) HZ838.out HZ841.out)
          replace HO817 := aM (R_ltB (R_oldB (rS HO817) hb HZ838.out) HZ838.out HZ841.out)
          replace BK747 := kB_ gb747 hb
          replace BK748 := kB_ gb748 hb
          replace BK776 := kB_ gb776 hb
          replace BK785 := kB_ gb785 hb
          replace BK794 := kB_ gb794 hb
          replace BK804 := kB_ gb804 hb
          replace HB := hB hb
          (try clear hb)
          (try clear hb2)
          (try clear hk)
          (try clear hi)
          (try clear ho0)
          (try clear ho1)
          refine hK.out _ _ (cx4 BK747 (cy6 BK748)) (fun hHeld => ?_)
          clear hK K
          refine norm_ (a' := ?_) ?_ ?_
          rotate_left
          ·show Act.put _ (some 96) _ = _
           simp only [Act.put, List.setIfInBounds_toArray, List.set_cons_zero, List.set_cons_succ, i64_w, i32_w]
           rfl
          refine two_ (i := 3) (j := 8) (Ni := some 98) (Nj := some 15) (mB 11 15) (mB 11 263) rfl rfl rfl rfl (two_of HT_.out (by kernel_rfl)) (by decide) (by decide) (fun K hK => ?_) (fun K hK => ?_)
          ·skip
           refine goes_ Tryz.func22 (by kernel_rfl) rfl #[.agg #[.slice A1_0 l1_0.length c1_0, .int .i64 a1_1, .int .i64 a1_2, .int .i64 a1_3, .int .i64 a1_4, .int .i64 a1_5]] (by rfl) rfl rfl mA ?_
           with_reducible refine (laws_toObject.calls k _ _ l1_0 a1_1 a1_2 a1_3 a1_4 a1_5 t842 t845 t846 t847 t848 t849 _ ?side1 ?side2 A44.out).mono ?_
           (case side1 => exact cS (Kd.C_below HR1_0.out HB.out))
           (case side2 => exact HC1_0.out)
           rintro e w129 ⟨v843, rfl, ho0, hb⟩
           refine ⟨_, rfl, ?_⟩
           obtain ⟨b844, HZ844, hz844⟩ := R_born ho0
           have HL844 := aM (show w.heap.size ≤ b844 from by rw [HZ844.out]; exact (below_size bS))
           have HO844 := aM (hz844)
           replace HO755 := aM (S_oldB (sS HO755) hb HZ844.out)
           replace HO758 := aM (S_oldB (sS HO758) hb HZ844.out)
           replace HO761 := aM (R_oldB (rS HO761) hb HZ844.out)
           replace HO771 := aM (S_oldB (sS HO771) hb HZ844.out)
           replace HO774 := aM (S_oldB (sS HO774) hb HZ844.out)
           replace HO799 := aM (S_oldB (sS HO799) hb HZ844.out)
           replace HO802 := aM (S_oldB (sS HO802) hb HZ844.out)
           replace HO810 := aM (S_oldB (sS HO810) hb HZ844.out)
           replace HO813 := aM (S_oldB (sS HO813) hb HZ844.out)
           replace HO817 := aM (R_oldB (rS HO817) hb HZ844.out)
           replace HO838 := aM (S_oldB (sS HO838) hb HZ844.out)
           replace HO841 := aM (S_oldB (sS HO841) hb HZ844.out)
           replace BK747 := kB_ gb747 hb
           replace BK748 := kB_ gb748 hb
           replace BK776 := kB_ gb776 hb
           replace BK785 := kB_ gb785 hb
           replace BK794 := kB_ gb794 hb
           replace BK804 := kB_ gb804 hb
           replace HB := hB hb
           (try clear hb)
           (try clear hb2)
           (try clear hk)
           (try clear hi)
           (try clear ho0)
           obtain ⟨Ao130, co130, eo130⟩ := Kd.S_slice HO838.out
           (first | subst eo130 | obtain ⟨rfl, rfl⟩ := slE eo130)
           obtain ⟨Ao131, co131, eo131⟩ := Kd.S_slice HO841.out
           (first | subst eo131 | obtain ⟨rfl, rfl⟩ := slE eo131)
           obtain ⟨Ao132, co132, eo132⟩ := Kd.R_slice HO844.out
           (first | subst eo132 | obtain ⟨rfl, rfl⟩ := slE eo132)
           refine hK.out _ _ (cx4 BK747 (cy6 BK748)) (fun hHeld => ?_)
           clear hK K
           refine norm_ (a' := ?_) ?_ ?_
           rotate_left
           ·show Act.put _ (some 98) _ = _
            simp only [Act.put, List.setIfInBounds_toArray, List.set_cons_zero, List.set_cons_succ, i64_w, i32_w]
            rfl
           refine two_ (i := 4) (j := 8) (Ni := some 99) (Nj := some 15) (mB 11 31) (mB 11 271) rfl rfl rfl rfl (two_of HT_.out (by kernel_rfl)) (by decide) (by decide) (fun K hK => ?_) (fun K hK => ?_)
           ·skip
            refine goes_ Tryz.func23 (by kernel_rfl) rfl #[.agg #[.int .i64 t834, .int .i64 t835, .slice Ao130 t836.length co130, .slice Ao131 t839.length co131], .agg #[.slice Ao132 t842.length co132, .int .i64 t845, .int .i64 t846, .int .i64 t847, .int .i64 t848, .int .i64 t849]] (by rfl) rfl rfl mA ?_
            with_reducible refine (impl_AddToBand.calls k t834 t835 _ _ t836 _ _ t839 _ _ t842 t845 t846 t847 t848 t849 t850 t851 t852 t855 t858 _ ?side1 ?side2 ?side3 ?side4 ?side5 ?side6 A45.out).mono ?_
            (case side1 => exact cS (Kd.S_reads' HO838.out).2.2)
            (case side2 => exact (Kd.S_reads' HO838.out).2.1)
            (case side3 => exact cS (Kd.S_reads' HO841.out).2.2)
            (case side4 => exact (Kd.S_reads' HO841.out).2.1)
            (case side5 => exact cS (Kd.R_reads' HO844.out).2.2)
            (case side6 => exact (Kd.R_reads' HO844.out).2.1)
            rintro e w133 ⟨v853, v856, rfl, ho0, ho1, hb⟩
            refine ⟨_, rfl, ?_⟩
            obtain ⟨b854, HZ854, hz854⟩ := S_born ho0
            have HL854 := aM (show w.heap.size ≤ b854 from by rw [HZ854.out]; exact (below_size bS))
            obtain ⟨b857, HZ857, hz857⟩ := S_born (Kd.S_newB ho1 (g := gb794) kS)
            have HL857 := aM (show w.heap.size ≤ b857 from by rw [HZ857.out]; exact (below_size bS))
            have HO854 := aM (hz854)
            have HO857 := aM (hz857)
            replace HO755 := aM (S_ltB (S_oldB (sS HO755) hb HZ854.out) HZ854.out HZ857.out)
            replace HO758 := aM (S_ltB (S_oldB (sS HO758) hb HZ854.out) HZ854.out HZ857.out)
            replace HO761 := aM (R_ltB (R_oldB (rS HO761) hb HZ854.out) HZ854.out HZ857.out)
            replace HO771 := aM (S_ltB (S_oldB (sS HO771) hb HZ854.out) HZ854.out HZ857.out)
            replace HO774 := aM (S_ltB (S_oldB (sS HO774) hb HZ854.out) HZ854.out HZ857.out)
            replace HO799 := aM (S_ltB (S_oldB (sS HO799) hb HZ854.out) HZ854.out HZ857.out)
            replace HO802 := aM (S_ltB (S_oldB (sS HO802) hb HZ854.out) HZ854.out HZ857.out)
            replace HO810 := aM (S_ltB (S_oldB (sS HO810) hb HZ854.out) HZ854.out HZ857.out)
            replace HO813 := aM (S_ltB (S_oldB (sS HO813) hb HZ854.out) HZ854.out HZ857.out)
            replace HO817 := aM (R_ltB (R_oldB (rS HO817) hb HZ854.out) HZ854.out HZ857.out)
            replace HO838 := aM (S_ltB (S_oldB (sS HO838) hb HZ854.out) HZ854.out HZ857.out)
            replace HO841 := aM (S_ltB (S_oldB (sS HO841) hb HZ854.out) HZ854.out HZ857.out)
            replace HO844 := aM (R_ltB (R_oldB (rS HO844) hb HZ854.out) HZ854.out HZ857.out)
            replace BK747 := kB_ gb747 hb
            replace BK748 := kB_ gb748 hb
            replace BK776 := kB_ gb776 hb
            replace BK785 := kB_ gb785 hb
            replace BK794 := kB_ gb794 hb
            replace BK804 := kB_ gb804 hb
            replace HB := hB hb
            (try clear hb)
            (try clear hb2)
            (try clear hk)
            (try clear hi)
            (try clear ho0)
            (try clear ho1)
            refine hK.out _ _ (cx4 BK747 (cy6 BK748)) (fun hHeld => ?_)
            clear hK K
            refine norm_ (a' := ?_) ?_ ?_
            rotate_left
            ·show Act.put _ (some 99) _ = _
             simp only [Act.put, List.setIfInBounds_toArray, List.set_cons_zero, List.set_cons_succ, i64_w, i32_w]
             rfl
            refine pU 5 (some 94) (mB 11 63) ?_
            refine pU 6 (some 100) (mB 11 127) ?_
            refine pU 7 (some 101) (mB 11 255) ?_
            refine one_ (i := 8) (N := some 15) (mB 11 511) rfl rfl (one_of HT_.out (by kernel_rfl)) (by decide) (fun K hK => ?_)
            refine box_step ?hg (N := 15) ?hd (cs := #[.int .i64 0, .int .i64 0, .slice none 0 0, .slice none 0 0]) (t := 30) ?hr ?_; (case hd => rfl); (case hg => rfl); (case hr => first | (go_simp; done) | (go_simp; rfl))
            intro gb859 hg w134 hbox hb
            have BK859 := aM (hbox)
            have GW859 := gE hg
            have GE859 := gE hg
            have NB747_859 := nL_ gb747 hg
            have NB859_747 := nG_ gb747 hg
            have NB748_859 := nL_ gb748 hg
            have NB859_748 := nG_ gb748 hg
            have NB776_859 := nL_ gb776 hg
            have NB859_776 := nG_ gb776 hg
            have NB785_859 := nL_ gb785 hg
            have NB859_785 := nG_ gb785 hg
            have NB794_859 := nL_ gb794 hg
            have NB859_794 := nG_ gb794 hg
            have NB804_859 := nL_ gb804 hg
            have NB859_804 := nG_ gb804 hg
            replace HO755 := sB HO755 hb
            replace HO758 := sB HO758 hb
            replace HO761 := aM (Kd.R_below (rS HO761) hb)
            replace HO771 := sB HO771 hb
            replace HO774 := sB HO774 hb
            replace HO799 := sB HO799 hb
            replace HO802 := sB HO802 hb
            replace HO810 := sB HO810 hb
            replace HO813 := sB HO813 hb
            replace HO817 := aM (Kd.R_below (rS HO817) hb)
            replace HO838 := sB HO838 hb
            replace HO841 := sB HO841 hb
            replace HO844 := aM (Kd.R_below (rS HO844) hb)
            replace HO854 := sB HO854 hb
            replace HO857 := sB HO857 hb
            replace BK747 := kB_ gb747 hb
            replace BK748 := kB_ gb748 hb
            replace BK776 := kB_ gb776 hb
            replace BK785 := kB_ gb785 hb
            replace BK794 := kB_ gb794 hb
            replace BK804 := kB_ gb804 hb
            replace HB := hB hb
            clear hb hg
            refine hK.out _ _ (cx4 BK747 (cy6 BK748)) (fun hHeld => ?_)
            clear hK K
            refine norm_ (a' := ?_) ?_ ?_
            rotate_left
            ·show Act.put _ (some 15) _ = _
             simp only [Act.put, List.setIfInBounds_toArray, List.set_cons_zero, List.set_cons_succ, i64_w, i32_w]
             rfl
            exact norm_ (by simp only [putAll, Act.put, List.setIfInBounds_toArray, List.set_cons_zero, List.set_cons_succ]) (hCont (.slice Ao130 t836.length co130, .slice Ao131 t839.length co131, b838, b841, .slice Ao132 t842.length co132, b844, v853, v856, b854, b857, gb859) _ ⟨hHeld, (by exact sM HO755), (by exact sM HO758), (by exact rM HO761), (by exact sM HO771), (by exact sM HO774), (by exact sM HO799), (by exact sM HO802), (by exact sM HO810), (by exact sM HO813), (by exact rM HO817), (by exact sM HO838), (by exact sM HO841), (by exact rM HO844), (sS HO854), (by exact sM HO857), HL838.out, HL841.out, HL844.out, HL854.out, HL857.out, kS, kS, kS, kS, kS, kS, kS, GW859.out, GE859.out, NB747_859.out, NB859_747.out, NB748_859.out, NB859_748.out, NB776_859.out, NB859_776.out, NB785_859.out, NB859_785.out, NB794_859.out, NB859_794.out, NB804_859.out, NB859_804.out, bS⟩)
           ·skip
            refine box_step ?hg (N := 15) ?hd (cs := #[.int .i64 0, .int .i64 0, .slice none 0 0, .slice none 0 0]) (t := 30) ?hr ?_; (case hd => rfl); (case hg => rfl); (case hr => first | (go_simp; done) | (go_simp; rfl))
            intro gb859 hg w130 hbox hb
            have BK859 := aM (hbox)
            have GW859 := gE hg
            have GE859 := gE hg
            have NB747_859 := nL_ gb747 hg
            have NB859_747 := nG_ gb747 hg
            have NB748_859 := nL_ gb748 hg
            have NB859_748 := nG_ gb748 hg
            have NB776_859 := nL_ gb776 hg
            have NB859_776 := nG_ gb776 hg
            have NB785_859 := nL_ gb785 hg
            have NB859_785 := nG_ gb785 hg
            have NB794_859 := nL_ gb794 hg
            have NB859_794 := nG_ gb794 hg
            have NB804_859 := nL_ gb804 hg
            have NB859_804 := nG_ gb804 hg
            replace HO755 := sB HO755 hb
            replace HO758 := sB HO758 hb
            replace HO761 := aM (Kd.R_below (rS HO761) hb)
            replace HO771 := sB HO771 hb
            replace HO774 := sB HO774 hb
            replace HO799 := sB HO799 hb
            replace HO802 := sB HO802 hb
            replace HO810 := sB HO810 hb
            replace HO813 := sB HO813 hb
            replace HO817 := aM (Kd.R_below (rS HO817) hb)
            replace HO838 := sB HO838 hb
            replace HO841 := sB HO841 hb
            replace HO844 := aM (Kd.R_below (rS HO844) hb)
            replace BK747 := kB_ gb747 hb
            replace BK748 := kB_ gb748 hb
            replace BK776 := kB_ gb776 hb
            replace BK785 := kB_ gb785 hb
            replace BK794 := kB_ gb794 hb
            replace BK804 := kB_ gb804 hb
            replace HB := hB hb
            clear hb hg
            obtain ⟨Ao131, co131, eo131⟩ := Kd.S_slice HO838.out
            (first | subst eo131 | obtain ⟨rfl, rfl⟩ := slE eo131)
            obtain ⟨Ao132, co132, eo132⟩ := Kd.S_slice HO841.out
            (first | subst eo132 | obtain ⟨rfl, rfl⟩ := slE eo132)
            obtain ⟨Ao133, co133, eo133⟩ := Kd.R_slice HO844.out
            (first | subst eo133 | obtain ⟨rfl, rfl⟩ := slE eo133)
            refine hK.out _ _ (cx4 BK747 (cy6 BK748)) (fun hHeld => ?_)
            clear hK K
            refine norm_ (a' := ?_) ?_ ?_
            rotate_left
            ·show Act.put _ (some 15) _ = _
             simp only [Act.put, List.setIfInBounds_toArray, List.set_cons_zero, List.set_cons_succ, i64_w, i32_w]
             rfl
            refine one_ (i := 4) (N := some 99) (mB 11 287) rfl rfl (one_of HT_.out (by kernel_rfl)) (by decide) (fun K hK => ?_)
            refine goes_ Tryz.func23 (by kernel_rfl) rfl #[.agg #[.int .i64 t834, .int .i64 t835, .slice Ao131 t836.length co131, .slice Ao132 t839.length co132], .agg #[.slice Ao133 t842.length co133, .int .i64 t845, .int .i64 t846, .int .i64 t847, .int .i64 t848, .int .i64 t849]] (by rfl) rfl rfl mA ?_
            with_reducible refine (impl_AddToBand.calls k t834 t835 _ _ t836 _ _ t839 _ _ t842 t845 t846 t847 t848 t849 t850 t851 t852 t855 t858 _ ?side1 ?side2 ?side3 ?side4 ?side5 ?side6 A45.out).mono ?_
            (case side1 => exact cS (Kd.S_reads' HO838.out).2.2)
            (case side2 => exact (Kd.S_reads' HO838.out).2.1)
            (case side3 => exact cS (Kd.S_reads' HO841.out).2.2)
            (case side4 => exact (Kd.S_reads' HO841.out).2.1)
            (case side5 => exact cS (Kd.R_reads' HO844.out).2.2)
            (case side6 => exact (Kd.R_reads' HO844.out).2.1)
            rintro e w134 ⟨v853, v856, rfl, ho0, ho1, hb⟩
            refine ⟨_, rfl, ?_⟩
            obtain ⟨b854, HZ854, hz854⟩ := S_born ho0
            have HL854 := aM (show w.heap.size ≤ b854 from by rw [HZ854.out]; exact (below_size bS))
            obtain ⟨b857, HZ857, hz857⟩ := S_born (Kd.S_newB ho1 (g := gb794) kS)
            have HL857 := aM (show w.heap.size ≤ b857 from by rw [HZ857.out]; exact (below_size bS))
            have HO854 := aM (hz854)
            have HO857 := aM (hz857)
            replace HO755 := aM (S_ltB (S_oldB (sS HO755) hb HZ854.out) HZ854.out HZ857.out)
            replace HO758 := aM (S_ltB (S_oldB (sS HO758) hb HZ854.out) HZ854.out HZ857.out)
            replace HO761 := aM (R_ltB (R_oldB (rS HO761) hb HZ854.out) HZ854.out HZ857.out)
            replace HO771 := aM (S_ltB (S_oldB (sS HO771) hb HZ854.out) HZ854.out HZ857.out)
            replace HO774 := aM (S_ltB (S_oldB (sS HO774) hb HZ854.out) HZ854.out HZ857.out)
            replace HO799 := aM (S_ltB (S_oldB (sS HO799) hb HZ854.out) HZ854.out HZ857.out)
            replace HO802 := aM (S_ltB (S_oldB (sS HO802) hb HZ854.out) HZ854.out HZ857.out)
            replace HO810 := aM (S_ltB (S_oldB (sS HO810) hb HZ854.out) HZ854.out HZ857.out)
            replace HO813 := aM (S_ltB (S_oldB (sS HO813) hb HZ854.out) HZ854.out HZ857.out)
            replace HO817 := aM (R_ltB (R_oldB (rS HO817) hb HZ854.out) HZ854.out HZ857.out)
            replace HO838 := aM (S_ltB (S_oldB (sS HO838) hb HZ854.out) HZ854.out HZ857.out)
            replace HO841 := aM (S_ltB (S_oldB (sS HO841) hb HZ854.out) HZ854.out HZ857.out)
            replace HO844 := aM (R_ltB (R_oldB (rS HO844) hb HZ854.out) HZ854.out HZ857.out)
            replace BK747 := kB_ gb747 hb
            replace BK748 := kB_ gb748 hb
            replace BK776 := kB_ gb776 hb
            replace BK785 := kB_ gb785 hb
            replace BK794 := kB_ gb794 hb
            replace BK804 := kB_ gb804 hb
            replace BK859 := kB_ gb859 hb
            replace HB := hB hb
            (try clear hb)
            (try clear hb2)
            (try clear hk)
            (try clear hi)
            (try clear ho0)
            (try clear ho1)
            refine hK.out _ _ (cx4 BK747 (cy6 BK748)) (fun hHeld => ?_)
            clear hK K
            refine norm_ (a' := ?_) ?_ ?_
            rotate_left
            ·show Act.put _ (some 99) _ = _
             simp only [Act.put, List.setIfInBounds_toArray, List.set_cons_zero, List.set_cons_succ, i64_w, i32_w]
             rfl
            refine pU 5 (some 94) (mB 11 319) ?_
            refine pU 6 (some 100) (mB 11 383) ?_
            refine pU 7 (some 101) (mB 11 511) ?_
            exact norm_ (by simp only [putAll, Act.put, List.setIfInBounds_toArray, List.set_cons_zero, List.set_cons_succ]) (hCont (.slice Ao131 t836.length co131, .slice Ao132 t839.length co132, b838, b841, .slice Ao133 t842.length co133, b844, v853, v856, b854, b857, gb859) _ ⟨hHeld, (by exact sM HO755), (by exact sM HO758), (by exact rM HO761), (by exact sM HO771), (by exact sM HO774), (by exact sM HO799), (by exact sM HO802), (by exact sM HO810), (by exact sM HO813), (by exact rM HO817), (by exact sM HO838), (by exact sM HO841), (by exact rM HO844), (sS HO854), (by exact sM HO857), HL838.out, HL841.out, HL844.out, HL854.out, HL857.out, kS, kS, kS, kS, kS, kS, kS, GW859.out, GE859.out, NB747_859.out, NB859_747.out, NB748_859.out, NB859_748.out, NB776_859.out, NB859_776.out, NB785_859.out, NB859_785.out, NB794_859.out, NB859_794.out, NB804_859.out, NB859_804.out, bS⟩)
          ·skip
           refine box_step ?hg (N := 15) ?hd (cs := #[.int .i64 0, .int .i64 0, .slice none 0 0, .slice none 0 0]) (t := 30) ?hr ?_; (case hd => rfl); (case hg => rfl); (case hr => first | (go_simp; done) | (go_simp; rfl))
           intro gb859 hg w129 hbox hb
           have BK859 := aM (hbox)
           have GW859 := gE hg
           have GE859 := gE hg
           have NB747_859 := nL_ gb747 hg
           have NB859_747 := nG_ gb747 hg
           have NB748_859 := nL_ gb748 hg
           have NB859_748 := nG_ gb748 hg
           have NB776_859 := nL_ gb776 hg
           have NB859_776 := nG_ gb776 hg
           have NB785_859 := nL_ gb785 hg
           have NB859_785 := nG_ gb785 hg
           have NB794_859 := nL_ gb794 hg
           have NB859_794 := nG_ gb794 hg
           have NB804_859 := nL_ gb804 hg
           have NB859_804 := nG_ gb804 hg
           replace HO755 := sB HO755 hb
           replace HO758 := sB HO758 hb
           replace HO761 := aM (Kd.R_below (rS HO761) hb)
           replace HO771 := sB HO771 hb
           replace HO774 := sB HO774 hb
           replace HO799 := sB HO799 hb
           replace HO802 := sB HO802 hb
           replace HO810 := sB HO810 hb
           replace HO813 := sB HO813 hb
           replace HO817 := aM (Kd.R_below (rS HO817) hb)
           replace HO838 := sB HO838 hb
           replace HO841 := sB HO841 hb
           replace BK747 := kB_ gb747 hb
           replace BK748 := kB_ gb748 hb
           replace BK776 := kB_ gb776 hb
           replace BK785 := kB_ gb785 hb
           replace BK794 := kB_ gb794 hb
           replace BK804 := kB_ gb804 hb
           replace HB := hB hb
           clear hb hg
           refine hK.out _ _ (cx4 BK747 (cy6 BK748)) (fun hHeld => ?_)
           clear hK K
           refine norm_ (a' := ?_) ?_ ?_
           rotate_left
           ·show Act.put _ (some 15) _ = _
            simp only [Act.put, List.setIfInBounds_toArray, List.set_cons_zero, List.set_cons_succ, i64_w, i32_w]
            rfl
           refine one_ (i := 3) (N := some 98) (mB 11 271) rfl rfl (one_of HT_.out (by kernel_rfl)) (by decide) (fun K hK => ?_)
           refine goes_ Tryz.func22 (by kernel_rfl) rfl #[.agg #[.slice A1_0 l1_0.length c1_0, .int .i64 a1_1, .int .i64 a1_2, .int .i64 a1_3, .int .i64 a1_4, .int .i64 a1_5]] (by rfl) rfl rfl mA ?_
           with_reducible refine (laws_toObject.calls k _ _ l1_0 a1_1 a1_2 a1_3 a1_4 a1_5 t842 t845 t846 t847 t848 t849 _ ?side1 ?side2 A44.out).mono ?_
           (case side1 => exact cS (Kd.C_below HR1_0.out HB.out))
           (case side2 => exact HC1_0.out)
           rintro e w130 ⟨v843, rfl, ho0, hb⟩
           refine ⟨_, rfl, ?_⟩
           obtain ⟨b844, HZ844, hz844⟩ := R_born ho0
           have HL844 := aM (show w.heap.size ≤ b844 from by rw [HZ844.out]; exact (below_size bS))
           have HO844 := aM (hz844)
           replace HO755 := aM (S_oldB (sS HO755) hb HZ844.out)
           replace HO758 := aM (S_oldB (sS HO758) hb HZ844.out)
           replace HO761 := aM (R_oldB (rS HO761) hb HZ844.out)
           replace HO771 := aM (S_oldB (sS HO771) hb HZ844.out)
           replace HO774 := aM (S_oldB (sS HO774) hb HZ844.out)
           replace HO799 := aM (S_oldB (sS HO799) hb HZ844.out)
           replace HO802 := aM (S_oldB (sS HO802) hb HZ844.out)
           replace HO810 := aM (S_oldB (sS HO810) hb HZ844.out)
           replace HO813 := aM (S_oldB (sS HO813) hb HZ844.out)
           replace HO817 := aM (R_oldB (rS HO817) hb HZ844.out)
           replace HO838 := aM (S_oldB (sS HO838) hb HZ844.out)
           replace HO841 := aM (S_oldB (sS HO841) hb HZ844.out)
           replace BK747 := kB_ gb747 hb
           replace BK748 := kB_ gb748 hb
           replace BK776 := kB_ gb776 hb
           replace BK785 := kB_ gb785 hb
           replace BK794 := kB_ gb794 hb
           replace BK804 := kB_ gb804 hb
           replace BK859 := kB_ gb859 hb
           replace HB := hB hb
           (try clear hb)
           (try clear hb2)
           (try clear hk)
           (try clear hi)
           (try clear ho0)
           obtain ⟨Ao131, co131, eo131⟩ := Kd.S_slice HO838.out
           (first | subst eo131 | obtain ⟨rfl, rfl⟩ := slE eo131)
           obtain ⟨Ao132, co132, eo132⟩ := Kd.S_slice HO841.out
           (first | subst eo132 | obtain ⟨rfl, rfl⟩ := slE eo132)
           obtain ⟨Ao133, co133, eo133⟩ := Kd.R_slice HO844.out
           (first | subst eo133 | obtain ⟨rfl, rfl⟩ := slE eo133)
           refine hK.out _ _ (cx4 BK747 (cy6 BK748)) (fun hHeld => ?_)
           clear hK K
           refine norm_ (a' := ?_) ?_ ?_
           rotate_left
           ·show Act.put _ (some 98) _ = _
            simp only [Act.put, List.setIfInBounds_toArray, List.set_cons_zero, List.set_cons_succ, i64_w, i32_w]
            rfl
           refine one_ (i := 4) (N := some 99) (mB 11 287) rfl rfl (one_of HT_.out (by kernel_rfl)) (by decide) (fun K hK => ?_)
           refine goes_ Tryz.func23 (by kernel_rfl) rfl #[.agg #[.int .i64 t834, .int .i64 t835, .slice Ao131 t836.length co131, .slice Ao132 t839.length co132], .agg #[.slice Ao133 t842.length co133, .int .i64 t845, .int .i64 t846, .int .i64 t847, .int .i64 t848, .int .i64 t849]] (by rfl) rfl rfl mA ?_
           with_reducible refine (impl_AddToBand.calls k t834 t835 _ _ t836 _ _ t839 _ _ t842 t845 t846 t847 t848 t849 t850 t851 t852 t855 t858 _ ?side1 ?side2 ?side3 ?side4 ?side5 ?side6 A45.out).mono ?_
           (case side1 => exact cS (Kd.S_reads' HO838.out).2.2)
           (case side2 => exact (Kd.S_reads' HO838.out).2.1)
           (case side3 => exact cS (Kd.S_reads' HO841.out).2.2)
           (case side4 => exact (Kd.S_reads' HO841.out).2.1)
           (case side5 => exact cS (Kd.R_reads' HO844.out).2.2)
           (case side6 => exact (Kd.R_reads' HO844.out).2.1)
           rintro e w134 ⟨v853, v856, rfl, ho0, ho1, hb⟩
           refine ⟨_, rfl, ?_⟩
           obtain ⟨b854, HZ854, hz854⟩ := S_born ho0
           have HL854 := aM (show w.heap.size ≤ b854 from by rw [HZ854.out]; exact (below_size bS))
           obtain ⟨b857, HZ857, hz857⟩ := S_born (Kd.S_newB ho1 (g := gb794) kS)
           have HL857 := aM (show w.heap.size ≤ b857 from by rw [HZ857.out]; exact (below_size bS))
           have HO854 := aM (hz854)
           have HO857 := aM (hz857)
           replace HO755 := aM (S_ltB (S_oldB (sS HO755) hb HZ854.out) HZ854.out HZ857.out)
           replace HO758 := aM (S_ltB (S_oldB (sS HO758) hb HZ854.out) HZ854.out HZ857.out)
           replace HO761 := aM (R_ltB (R_oldB (rS HO761) hb HZ854.out) HZ854.out HZ857.out)
           replace HO771 := aM (S_ltB (S_oldB (sS HO771) hb HZ854.out) HZ854.out HZ857.out)
           replace HO774 := aM (S_ltB (S_oldB (sS HO774) hb HZ854.out) HZ854.out HZ857.out)
           replace HO799 := aM (S_ltB (S_oldB (sS HO799) hb HZ854.out) HZ854.out HZ857.out)
           replace HO802 := aM (S_ltB (S_oldB (sS HO802) hb HZ854.out) HZ854.out HZ857.out)
           replace HO810 := aM (S_ltB (S_oldB (sS HO810) hb HZ854.out) HZ854.out HZ857.out)
           replace HO813 := aM (S_ltB (S_oldB (sS HO813) hb HZ854.out) HZ854.out HZ857.out)
           replace HO817 := aM (R_ltB (R_oldB (rS HO817) hb HZ854.out) HZ854.out HZ857.out)
           replace HO838 := aM (S_ltB (S_oldB (sS HO838) hb HZ854.out) HZ854.out HZ857.out)
           replace HO841 := aM (S_ltB (S_oldB (sS HO841) hb HZ854.out) HZ854.out HZ857.out)
           replace HO844 := aM (R_ltB (R_oldB (rS HO844) hb HZ854.out) HZ854.out HZ857.out)
           replace BK747 := kB_ gb747 hb
           replace BK748 := kB_ gb748 hb
           replace BK776 := kB_ gb776 hb
           replace BK785 := kB_ gb785 hb
           replace BK794 := kB_ gb794 hb
           replace BK804 := kB_ gb804 hb
           replace BK859 := kB_ gb859 hb
           replace HB := hB hb
           (try clear hb)
           (try clear hb2)
           (try clear hk)
           (try clear hi)
           (try clear ho0)
           (try clear ho1)
           refine hK.out _ _ (cx4 BK747 (cy6 BK748)) (fun hHeld => ?_)
           clear hK K
           refine norm_ (a' := ?_) ?_ ?_
           rotate_left
           ·show Act.put _ (some 99) _ = _
            simp only [Act.put, List.setIfInBounds_toArray, List.set_cons_zero, List.set_cons_succ, i64_w, i32_w]
            rfl
           refine pU 5 (some 94) (mB 11 319) ?_
           refine pU 6 (some 100) (mB 11 383) ?_
           refine pU 7 (some 101) (mB 11 511) ?_
           exact norm_ (by simp only [putAll, Act.put, List.setIfInBounds_toArray, List.set_cons_zero, List.set_cons_succ]) (hCont (.slice Ao131 t836.length co131, .slice Ao132 t839.length co132, b838, b841, .slice Ao133 t842.length co133, b844, v853, v856, b854, b857, gb859) _ ⟨hHeld, (by exact sM HO755), (by exact sM HO758), (by exact rM HO761), (by exact sM HO771), (by exact sM HO774), (by exact sM HO799), (by exact sM HO802), (by exact sM HO810), (by exact sM HO813), (by exact rM HO817), (by exact sM HO838), (by exact sM HO841), (by exact rM HO844), (sS HO854), (by exact sM HO857), HL838.out, HL841.out, HL844.out, HL854.out, HL857.out, kS, kS, kS, kS, kS, kS, kS, GW859.out, GE859.out, NB747_859.out, NB859_747.out, NB748_859.out, NB859_748.out, NB776_859.out, NB859_776.out, NB785_859.out, NB859_785.out, NB794_859.out, NB859_794.out, NB804_859.out, NB859_804.out, bS⟩)
         ·skip
          refine box_step ?hg (N := 15) ?hd (cs := #[.int .i64 0, .int .i64 0, .slice none 0 0, .slice none 0 0]) (t := 30) ?hr ?_; (case hd => rfl); (case hg => rfl); (case hr => first | (go_simp; done) | (go_simp; rfl))
          intro gb859 hg w128 hbox hb
          have BK859 := aM (hbox)
          have GW859 := gE hg
          have GE859 := gE hg
          have NB747_859 := nL_ gb747 hg
          have NB859_747 := nG_ gb747 hg
          have NB748_859 := nL_ gb748 hg
          have NB859_748 := nG_ gb748 hg
          have NB776_859 := nL_ gb776 hg
          have NB859_776 := nG_ gb776 hg
          have NB785_859 := nL_ gb785 hg
          have NB859_785 := nG_ gb785 hg
          have NB794_859 := nL_ gb794 hg
          have NB859_794 := nG_ gb794 hg
          have NB804_859 := nL_ gb804 hg
          have NB859_804 := nG_ gb804 hg
          replace HO755 := sB HO755 hb
          replace HO758 := sB HO758 hb
          replace HO761 := aM (Kd.R_below (rS HO761) hb)
          replace HO771 := sB HO771 hb
          replace HO774 := sB HO774 hb
          replace HO799 := sB HO799 hb
          replace HO802 := sB HO802 hb
          replace HO810 := sB HO810 hb
          replace HO813 := sB HO813 hb
          replace HO817 := aM (Kd.R_below (rS HO817) hb)
          replace BK747 := kB_ gb747 hb
          replace BK748 := kB_ gb748 hb
          replace BK776 := kB_ gb776 hb
          replace BK785 := kB_ gb785 hb
          replace BK794 := kB_ gb794 hb
          replace BK804 := kB_ gb804 hb
          replace HB := hB hb
          clear hb hg
          refine hK.out _ _ (cx4 BK747 (cy6 BK748)) (fun hHeld => ?_)
          clear hK K
          refine norm_ (a' := ?_) ?_ ?_
          rotate_left
          ·show Act.put _ (some 15) _ = _
           simp only [Act.put, List.setIfInBounds_toArray, List.set_cons_zero, List.set_cons_succ, i64_w, i32_w]
           rfl
          refine one_ (i := 1) (N := some 96) (mB 11 263) rfl rfl (one_of HT_.out (by kernel_rfl)) (by decide) (fun K hK => ?_)
          refine goes_ Tryz.func10 (by kernel_rfl) rfl #[.agg #[.int .i64 a0_0, .int .i64 a0_1, .slice A0_2 l0_2.length c0_2, .slice A0_3 l0_3.length c0_3]] (by rfl) rfl rfl mA ?_
          with_reducible refine (laws_toBand.calls k a0_0 a0_1 _ _ l0_2 _ _ l0_3 t834 t835 t836 t839 _ ?side1 ?side2 ?side3 ?side4 A43.out).mono ?_
          (case side1 => exact cS (Kd.C_below HR0_2.out HB.out))
          (case side2 => exact HC0_2.out)
          (case side3 => exact cS (Kd.C_below HR0_3.out HB.out))
          (case side4 => exact HC0_3.out)
          rintro e w129 ⟨v837, v840, rfl, ho0, ho1, hb⟩
          refine ⟨_, rfl, ?_⟩
          obtain ⟨b838, HZ838, hz838⟩ := S_born ho0
          have HL838 := aM (show w.heap.size ≤ b838 from by rw [HZ838.out]; exact (below_size bS))
          obtain ⟨b841, HZ841, hz841⟩ := S_born (Kd.S_newB ho1 (g := gb794) kS)
          have HL841 := aM (show w.heap.size ≤ b841 from by rw [HZ841.out]; exact (below_size bS))
          have HO838 := aM (hz838)
          have HO841 := aM (hz841)
          replace HO755 := aM (S_ltB (S_oldB (sS HO755) hb HZ838.out) HZ838.out HZ841.out)
          replace HO758 := aM (S_ltB (S_oldB (sS HO758) hb HZ838.out) HZ838.out HZ841.out)
          replace HO761 := aM (R_ltB (R_oldB (rS HO761) hb HZ838.out) HZ838.out HZ841.out)
          replace HO771 := aM (S_ltB (S_oldB (sS HO771) hb HZ838.out) HZ838.out HZ841.out)
          replace HO774 := aM (S_ltB (S_oldB (sS HO774) hb HZ838.out) HZ838.out HZ841.out)
          replace HO799 := aM (S_ltB (S_oldB (sS HO799) hb HZ838.out) HZ838.out HZ841.out)
          replace HO802 := aM (S_ltB (S_oldB (sS HO802) hb HZ838.out) HZ838.out HZ841.out)
          replace HO810 := aM (S_ltB (S_oldB (sS HO810) hb HZ838.out) HZ838.out HZ841.out)
          replace HO813 := aM (S_ltB (S_oldB (sS HO813) hb HZ838.out) HZ838.out HZ841.out)
          replace HO817 := aM (R_ltB (R_oldB (rS HO817) hb HZ838.out) HZ838.out HZ841.out)
          replace BK747 := kB_ gb747 hb
          replace BK748 := kB_ gb748 hb
          replace BK776 := kB_ gb776 hb
          replace BK785 := kB_ gb785 hb
          replace BK794 := kB_ gb794 hb
          replace BK804 := kB_ gb804 hb
          replace BK859 := kB_ gb859 hb
          replace HB := hB hb
          (try clear hb)
          (try clear hb2)
          (try clear hk)
          (try clear hi)
          (try clear ho0)
          (try clear ho1)
          refine hK.out _ _ (cx4 BK747 (cy6 BK748)) (fun hHeld => ?_)
          clear hK K
          refine norm_ (a' := ?_) ?_ ?_
          rotate_left
          ·show Act.put _ (some 96) _ = _
           simp only [Act.put, List.setIfInBounds_toArray, List.set_cons_zero, List.set_cons_succ, i64_w, i32_w]
           rfl
          refine one_ (i := 3) (N := some 98) (mB 11 271) rfl rfl (one_of HT_.out (by kernel_rfl)) (by decide) (fun K hK => ?_)
          refine goes_ Tryz.func22 (by kernel_rfl) rfl #[.agg #[.slice A1_0 l1_0.length c1_0, .int .i64 a1_1, .int .i64 a1_2, .int .i64 a1_3, .int .i64 a1_4, .int .i64 a1_5]] (by rfl) rfl rfl mA ?_
          with_reducible refine (laws_toObject.calls k _ _ l1_0 a1_1 a1_2 a1_3 a1_4 a1_5 t842 t845 t846 t847 t848 t849 _ ?side1 ?side2 A44.out).mono ?_
          (case side1 => exact cS (Kd.C_below HR1_0.out HB.out))
          (case side2 => exact HC1_0.out)
          rintro e w130 ⟨v843, rfl, ho0, hb⟩
          refine ⟨_, rfl, ?_⟩
          obtain ⟨b844, HZ844, hz844⟩ := R_born ho0
          have HL844 := aM (show w.heap.size ≤ b844 from by rw [HZ844.out]; exact (below_size bS))
          have HO844 := aM (hz844)
          replace HO755 := aM (S_oldB (sS HO755) hb HZ844.out)
          replace HO758 := aM (S_oldB (sS HO758) hb HZ844.out)
          replace HO761 := aM (R_oldB (rS HO761) hb HZ844.out)
          replace HO771 := aM (S_oldB (sS HO771) hb HZ844.out)
          replace HO774 := aM (S_oldB (sS HO774) hb HZ844.out)
          replace HO799 := aM (S_oldB (sS HO799) hb HZ844.out)
          replace HO802 := aM (S_oldB (sS HO802) hb HZ844.out)
          replace HO810 := aM (S_oldB (sS HO810) hb HZ844.out)
          replace HO813 := aM (S_oldB (sS HO813) hb HZ844.out)
          replace HO817 := aM (R_oldB (rS HO817) hb HZ844.out)
          replace HO838 := aM (S_oldB (sS HO838) hb HZ844.out)
          replace HO841 := aM (S_oldB (sS HO841) hb HZ844.out)
          replace BK747 := kB_ gb747 hb
          replace BK748 := kB_ gb748 hb
          replace BK776 := kB_ gb776 hb
          replace BK785 := kB_ gb785 hb
          replace BK794 := kB_ gb794 hb
          replace BK804 := kB_ gb804 hb
          replace BK859 := kB_ gb859 hb
          replace HB := hB hb
          (try clear hb)
          (try clear hb2)
          (try clear hk)
          (try clear hi)
          (try clear ho0)
          obtain ⟨Ao131, co131, eo131⟩ := Kd.S_slice HO838.out
          (first | subst eo131 | obtain ⟨rfl, rfl⟩ := slE eo131)
          obtain ⟨Ao132, co132, eo132⟩ := Kd.S_slice HO841.out
          (first | subst eo132 | obtain ⟨rfl, rfl⟩ := slE eo132)
          obtain ⟨Ao133, co133, eo133⟩ := Kd.R_slice HO844.out
          (first | subst eo133 | obtain ⟨rfl, rfl⟩ := slE eo133)
          refine hK.out _ _ (cx4 BK747 (cy6 BK748)) (fun hHeld => ?_)
          clear hK K
          refine norm_ (a' := ?_) ?_ ?_
          rotate_left
          ·show Act.put _ (some 98) _ = _
           simp only [Act.put, List.setIfInBounds_toArray, List.set_cons_zero, List.set_cons_succ, i64_w, i32_w]
           rfl
          refine one_ (i := 4) (N := some 99) (mB 11 287) rfl rfl (one_of HT_.out (by kernel_rfl)) (by decide) (fun K hK => ?_)
          refine goes_ Tryz.func23 (by kernel_rfl) rfl #[.agg #[.int .i64 t834, .int .i64 t835, .slice Ao131 t836.length co131, .slice Ao132 t839.length co132], .agg #[.slice Ao133 t842.length co133, .int .i64 t845, .int .i64 t846, .int .i64 t847, .int .i64 t848, .int .i64 t849]] (by rfl) rfl rfl mA ?_
          with_reducible refine (impl_AddToBand.calls k t834 t835 _ _ t836 _ _ t839 _ _ t842 t845 t846 t847 t848 t849 t850 t851 t852 t855 t858 _ ?side1 ?side2 ?side3 ?side4 ?side5 ?side6 A45.out).mono ?_
          (case side1 => exact cS (Kd.S_reads' HO838.out).2.2)
          (case side2 => exact (Kd.S_reads' HO838.out).2.1)
          (case side3 => exact cS (Kd.S_reads' HO841.out).2.2)
          (case side4 => exact (Kd.S_reads' HO841.out).2.1)
          (case side5 => exact cS (Kd.R_reads' HO844.out).2.2)
          (case side6 => exact (Kd.R_reads' HO844.out).2.1)
          rintro e w134 ⟨v853, v856, rfl, ho0, ho1, hb⟩
          refine ⟨_, rfl, ?_⟩
          obtain ⟨b854, HZ854, hz854⟩ := S_born ho0
          have HL854 := aM (show w.heap.size ≤ b854 from by rw [HZ854.out]; exact (below_size bS))
          obtain ⟨b857, HZ857, hz857⟩ := S_born (Kd.S_newB ho1 (g := gb794) kS)
          have HL857 := aM (show w.heap.size ≤ b857 from by rw [HZ857.out]; exact (below_size bS))
          have HO854 := aM (hz854)
          have HO857 := aM (hz857)
          replace HO755 := aM (S_ltB (S_oldB (sS HO755) hb HZ854.out) HZ854.out HZ857.out)
          replace HO758 := aM (S_ltB (S_oldB (sS HO758) hb HZ854.out) HZ854.out HZ857.out)
          replace HO761 := aM (R_ltB (R_oldB (rS HO761) hb HZ854.out) HZ854.out HZ857.out)
          replace HO771 := aM (S_ltB (S_oldB (sS HO771) hb HZ854.out) HZ854.out HZ857.out)
          replace HO774 := aM (S_ltB (S_oldB (sS HO774) hb HZ854.out) HZ854.out HZ857.out)
          replace HO799 := aM (S_ltB (S_oldB (sS HO799) hb HZ854.out) HZ854.out HZ857.out)
          replace HO802 := aM (S_ltB (S_oldB (sS HO802) hb HZ854.out) HZ854.out HZ857.out)
          replace HO810 := aM (S_ltB (S_oldB (sS HO810) hb HZ854.out) HZ854.out HZ857.out)
          replace HO813 := aM (S_ltB (S_oldB (sS HO813) hb HZ854.out) HZ854.out HZ857.out)
          replace HO817 := aM (R_ltB (R_oldB (rS HO817) hb HZ854.out) HZ854.out HZ857.out)
          replace HO838 := aM (S_ltB (S_oldB (sS HO838) hb HZ854.out) HZ854.out HZ857.out)
          replace HO841 := aM (S_ltB (S_oldB (sS HO841) hb HZ854.out) HZ854.out HZ857.out)
          replace HO844 := aM (R_ltB (R_oldB (rS HO844) hb HZ854.out) HZ854.out HZ857.out)
          replace BK747 := kB_ gb747 hb
          replace BK748 := kB_ gb748 hb
          replace BK776 := kB_ gb776 hb
          replace BK785 := kB_ gb785 hb
          replace BK794 := kB_ gb794 hb
          replace BK804 := kB_ gb804 hb
          replace BK859 := kB_ gb859 hb
          replace HB := hB hb
          (try clear hb)
          (try clear hb2)
          (try clear hk)
          (try clear hi)
          (try clear ho0)
          (try clear ho1)
          refine hK.out _ _ (cx4 BK747 (cy6 BK748)) (fun hHeld => ?_)
          clear hK K
          refine norm_ (a' := ?_) ?_ ?_
          rotate_left
          ·show Act.put _ (some 99) _ = _
           simp only [Act.put, List.setIfInBounds_toArray, List.set_cons_zero, List.set_cons_succ, i64_w, i32_w]
           rfl
          refine pU 5 (some 94) (mB 11 319) ?_
          refine pU 6 (some 100) (mB 11 383) ?_
          refine pU 7 (some 101) (mB 11 511) ?_
          exact norm_ (by simp only [putAll, Act.put, List.setIfInBounds_toArray, List.set_cons_zero, List.set_cons_succ]) (hCont (.slice Ao131 t836.length co131, .slice Ao132 t839.length co132, b838, b841, .slice Ao133 t842.length co133, b844, v853, v856, b854, b857, gb859) _ ⟨hHeld, (by exact sM HO755), (by exact sM HO758), (by exact rM HO761), (by exact sM HO771), (by exact sM HO774), (by exact sM HO799), (by exact sM HO802), (by exact sM HO810), (by exact sM HO813), (by exact rM HO817), (by exact sM HO838), (by exact sM HO841), (by exact rM HO844), (sS HO854), (by exact sM HO857), HL838.out, HL841.out, HL844.out, HL854.out, HL857.out, kS, kS, kS, kS, kS, kS, kS, GW859.out, GE859.out, NB747_859.out, NB859_747.out, NB748_859.out, NB859_748.out, NB776_859.out, NB859_776.out, NB785_859.out, NB859_785.out, NB794_859.out, NB859_794.out, NB804_859.out, NB859_804.out, bS⟩)
        rintro ⟨v837, v840, b838, b841, v843, b844, v853, v856, b854, b857, gb859⟩ w135 ⟨hS_, h0_, h1_, h2_, h3_, h4_, h5_, h6_, h7_, h8_, h9_, h10_, h11_, h12_, h13_, h14_, h15_, h16_, h17_, h18_, h19_, h20_, h21_, h22_, h23_, h24_, h25_, h26_, h27_, h28_, h29_, h30_, h31_, h32_, h33_, h34_, h35_, h36_, h37_, h38_, h39_, h40_, h41_⟩
        have HO838 : Aside0 (Kd.S (Kd.slice 3 (Kd.int .i64)) 54 w135 b838 (fun k_ => k_ < b844 ∧ k_ < b854 ∧ k_ < b857) v837 t836) := ⟨h10_⟩
        have HO841 : Aside0 (Kd.S k49 49 w135 b841 (fun k_ => k_ < b844 ∧ k_ < b854 ∧ k_ < b857 ∧ k_ ≠ gb794) v840 t839) := ⟨h11_⟩
        have HO844 : Aside0 (Kd.R k151 151 w135 b844 (fun k_ => k_ < b854 ∧ k_ < b857) v843 t842) := ⟨h12_⟩
        have HO854 : Aside0 (Kd.S (Kd.slice 3 (Kd.int .i64)) 54 w135 b854 (fun _ => True) v853 t852) := ⟨h13_⟩
        have HO857 : Aside0 (Kd.S k49 49 w135 b857 (fun k_ => k_ ≠ gb794) v856 t855) := ⟨h14_⟩
        have HL838 : Aside0 (w.heap.size ≤ b838) := ⟨h15_⟩
        have HL841 : Aside0 (w.heap.size ≤ b841) := ⟨h16_⟩
        have HL844 : Aside0 (w.heap.size ≤ b844) := ⟨h17_⟩
        have HL854 : Aside0 (w.heap.size ≤ b854) := ⟨h18_⟩
        have HL857 : Aside0 (w.heap.size ≤ b857) := ⟨h19_⟩
        have BK859 : Aside0 (w135.heap[gb859]? = some (.cells #[.int .i64 0, .int .i64 0, .slice none 0 0, .slice none 0 0] 30 (0, 0))) := ⟨h26_⟩
        have GW859 : Aside0 (w.heap.size ≤ gb859) := ⟨h27_⟩
        have GE859 : Aside0 (w.heap.size ≤ gb859) := ⟨h28_⟩
        have NB747_859 : Aside0 (gb747 ≠ gb859) := ⟨h29_⟩
        have NB859_747 : Aside0 (gb859 ≠ gb747) := ⟨h30_⟩
        have NB748_859 : Aside0 (gb748 ≠ gb859) := ⟨h31_⟩
        have NB859_748 : Aside0 (gb859 ≠ gb748) := ⟨h32_⟩
        have NB776_859 : Aside0 (gb776 ≠ gb859) := ⟨h33_⟩
        have NB859_776 : Aside0 (gb859 ≠ gb776) := ⟨h34_⟩
        have NB785_859 : Aside0 (gb785 ≠ gb859) := ⟨h35_⟩
        have NB859_785 : Aside0 (gb859 ≠ gb785) := ⟨h36_⟩
        have NB794_859 : Aside0 (gb794 ≠ gb859) := ⟨h37_⟩
        have NB859_794 : Aside0 (gb859 ≠ gb794) := ⟨h38_⟩
        have NB804_859 : Aside0 (gb804 ≠ gb859) := ⟨h39_⟩
        have NB859_804 : Aside0 (gb859 ≠ gb804) := ⟨h40_⟩
        replace HO755 : Aside0 (Kd.S (Kd.slice 3 (Kd.int .i64)) 54 w135 b755 (fun k_ => k_ < b761 ∧ k_ < b771 ∧ k_ < b774 ∧ k_ < b799 ∧ k_ < b802 ∧ k_ < b810 ∧ k_ < b813 ∧ k_ < b817 ∧ k_ < b838 ∧ k_ < b841 ∧ k_ < b844 ∧ k_ < b854 ∧ k_ < b857) v754 t753) := ⟨h0_⟩
        replace HO758 : Aside0 (Kd.S k49 49 w135 b758 (fun k_ => k_ < b761 ∧ k_ < b771 ∧ k_ < b774 ∧ k_ < b799 ∧ k_ < b802 ∧ k_ < b810 ∧ k_ < b813 ∧ k_ < b817 ∧ k_ < b838 ∧ k_ < b841 ∧ k_ < b844 ∧ k_ < b854 ∧ k_ < b857 ∧ k_ ≠ gb794) v757 t756) := ⟨h1_⟩
        replace HO761 : Aside0 (Kd.R k151 151 w135 b761 (fun k_ => k_ < b771 ∧ k_ < b774 ∧ k_ < b799 ∧ k_ < b802 ∧ k_ < b810 ∧ k_ < b813 ∧ k_ < b817 ∧ k_ < b838 ∧ k_ < b841 ∧ k_ < b844 ∧ k_ < b854 ∧ k_ < b857) v760 t759) := ⟨h2_⟩
        replace HO771 : Aside0 (Kd.S (Kd.slice 3 (Kd.int .i64)) 54 w135 b771 (fun k_ => k_ < b799 ∧ k_ < b802 ∧ k_ < b810 ∧ k_ < b813 ∧ k_ < b817 ∧ k_ < b838 ∧ k_ < b841 ∧ k_ < b844 ∧ k_ < b854 ∧ k_ < b857) (.slice Ao70 t769.length co70) t769) := ⟨h3_⟩
        replace HO774 : Aside0 (Kd.S k49 49 w135 b774 (fun k_ => k_ < b799 ∧ k_ < b802 ∧ k_ < b810 ∧ k_ < b813 ∧ k_ < b817 ∧ k_ < b838 ∧ k_ < b841 ∧ k_ < b844 ∧ k_ < b854 ∧ k_ < b857 ∧ k_ ≠ gb794) (.slice Ao72 t772.length co72) t772) := ⟨h4_⟩
        replace HO799 : Aside0 (Kd.S (Kd.slice 3 (Kd.int .i64)) 54 w135 w.heap.size (fun k_ => k_ < b838 ∧ k_ < b841 ∧ k_ < b844 ∧ k_ < b854 ∧ k_ < b857) (.slice Ao103 t797.length co103) t831) := ⟨h5_⟩
        replace HO802 : Aside0 (Kd.S k49 49 w135 w.heap.size (fun k_ => k_ < b838 ∧ k_ < b841 ∧ k_ < b844 ∧ k_ < b854 ∧ k_ < b857) (.slice Ao104 t800.length co104) t832) := ⟨h6_⟩
        replace HO810 : Aside0 (Kd.S (Kd.slice 3 (Kd.int .i64)) 54 w135 b810 (fun k_ => k_ < b817 ∧ k_ < b838 ∧ k_ < b841 ∧ k_ < b844 ∧ k_ < b854 ∧ k_ < b857) (.slice Ao109 t808.length co109) t808) := ⟨h7_⟩
        replace HO813 : Aside0 (Kd.S k49 49 w135 b813 (fun k_ => k_ < b817 ∧ k_ < b838 ∧ k_ < b841 ∧ k_ < b844 ∧ k_ < b854 ∧ k_ < b857 ∧ k_ ≠ gb794) (.slice Ao110 t811.length co110) t811) := ⟨h8_⟩
        replace HO817 : Aside0 (Kd.R k151 151 w135 b817 (fun k_ => k_ < b838 ∧ k_ < b841 ∧ k_ < b844 ∧ k_ < b854 ∧ k_ < b857) (.slice Ao114 t815.length co114) t815) := ⟨h9_⟩
        replace BK747 : Aside0 (w135.heap[gb747]? = some (.cells #[.int .i64 a0_0, .int .i64 a0_1, .slice A0_2 l0_2.length c0_2, .slice A0_3 l0_3.length c0_3] 25 (0, 0))) := ⟨h20_⟩
        replace BK748 : Aside0 (w135.heap[gb748]? = some (.cells #[.slice A1_0 l1_0.length c1_0, .int .i64 a1_1, .int .i64 a1_2, .int .i64 a1_3, .int .i64 a1_4, .int .i64 a1_5] 42 (0, 0))) := ⟨h21_⟩
        replace BK776 : Aside0 (w135.heap[gb776]? = some (.cells #[.int .i64 t767, .int .i64 t768, .slice Ao70 t769.length co70, .slice Ao72 t772.length co72] 30 (0, 0))) := ⟨h22_⟩
        replace BK785 : Aside0 (w135.heap[gb785]? = some (.cells #[.int .i64 t777, .int .i64 t778, .slice Ao82 t779.length co82, .slice Ao83 t782.length co83] 30 (0, 0))) := ⟨h23_⟩
        replace BK794 : Aside0 (w135.heap[gb794]? = some (.cells #[.slice Ao88 t786.length co88, .int .i64 t789, .int .i64 t790, .int .i64 t791, .int .i64 t792, .int .i64 t793] 49 (0, 0))) := ⟨h24_⟩
        replace BK804 : Aside0 (w135.heap[gb804]? = some (.cells #[.int .i64 t795, .int .i64 t796, .slice Ao103 t797.length co103, .slice Ao104 t800.length co104] 30 (0, 0))) := ⟨h25_⟩
        replace HB : Aside0 (Below w.heap.size w w135) := ⟨h41_⟩
        clear h0_ h1_ h2_ h3_ h4_ h5_ h6_ h7_ h8_ h9_ h10_ h11_ h12_ h13_ h14_ h15_ h16_ h17_ h18_ h19_ h20_ h21_ h22_ h23_ h24_ h25_ h26_ h27_ h28_ h29_ h30_ h31_ h32_ h33_ h34_ h35_ h36_ h37_ h38_ h39_ h40_ h41_
        have hHeld : w135.cell? ⟨gb747, 0, none⟩ = some (.int .i64 a0_0) ∧ w135.cell? ⟨gb747, 1, none⟩ = some (.int .i64 a0_1) ∧ w135.cell? ⟨gb747, 2, none⟩ = some (.slice A0_2 l0_2.length c0_2) ∧ w135.cell? ⟨gb747, 3, none⟩ = some (.slice A0_3 l0_3.length c0_3) ∧ w135.cell? ⟨gb748, 0, none⟩ = some (.slice A1_0 l1_0.length c1_0) ∧ w135.cell? ⟨gb748, 1, none⟩ = some (.int .i64 a1_1) ∧ w135.cell? ⟨gb748, 2, none⟩ = some (.int .i64 a1_2) ∧ w135.cell? ⟨gb748, 3, none⟩ = some (.int .i64 a1_3) ∧ w135.cell? ⟨gb748, 4, none⟩ = some (.int .i64 a1_4) ∧ w135.cell? ⟨gb748, 5, none⟩ = some (.int .i64 a1_5) := hS_
        obtain ⟨Ao138, co138, eo138⟩ := Kd.S_slice HO854.out
        (first | subst eo138 | obtain ⟨rfl, rfl⟩ := slE eo138)
        obtain ⟨Ao140, co140, eo140⟩ := Kd.S_slice HO857.out
        (first | subst eo140 | obtain ⟨rfl, rfl⟩ := slE eo140)
        refine norm_ (a' := ?_) ?_ ?_
        rotate_left
        ·simp only [putAll, Act.put, List.setIfInBounds_toArray, List.set_cons_zero, List.set_cons_succ]
         rfl
        refine one_ (i := 9) (N := none) (mB 11 1023) rfl rfl (one_of HT_.out (by kernel_rfl)) (by decide) (fun K hK => ?_)
        have hs136 := cg0 BK859
        have hfs136 := blk_frozen BK859.out 0
        have hns136_0 := NB747_859.out
        have hns136_1 := NB748_859.out
        have hns136_2 := NB776_859.out
        have hns136_3 := NB785_859.out
        have hns136_4 := NB794_859.out
        have hns136_5 := NB804_859.out
        have hms136_0 := NB859_747.out
        have hms136_1 := NB859_748.out
        have hms136_2 := NB859_776.out
        have hms136_3 := NB859_785.out
        have hms136_4 := NB859_794.out
        have hms136_5 := NB859_804.out
        have hs137 := cg1 BK859
        have hfs137 := blk_frozen BK859.out 1
        have hns137_0 := NB747_859.out
        have hns137_1 := NB748_859.out
        have hns137_2 := NB776_859.out
        have hns137_3 := NB785_859.out
        have hns137_4 := NB794_859.out
        have hns137_5 := NB804_859.out
        have hms137_0 := NB859_747.out
        have hms137_1 := NB859_748.out
        have hms137_2 := NB859_776.out
        have hms137_3 := NB859_785.out
        have hms137_4 := NB859_794.out
        have hms137_5 := NB859_804.out
        have hs139 := cg2 BK859
        have hfs139 := blk_frozen BK859.out 2
        have hns139_0 := NB747_859.out
        have hns139_1 := NB748_859.out
        have hns139_2 := NB776_859.out
        have hns139_3 := NB785_859.out
        have hns139_4 := NB794_859.out
        have hns139_5 := NB804_859.out
        have hms139_0 := NB859_747.out
        have hms139_1 := NB859_748.out
        have hms139_2 := NB859_776.out
        have hms139_3 := NB859_785.out
        have hms139_4 := NB859_794.out
        have hms139_5 := NB859_804.out
        have hs141 := cg3 BK859
        have hfs141 := blk_frozen BK859.out 3
        have hns141_0 := NB747_859.out
        have hns141_1 := NB748_859.out
        have hns141_2 := NB776_859.out
        have hns141_3 := NB785_859.out
        have hns141_4 := NB794_859.out
        have hns141_5 := NB804_859.out
        have hms141_0 := NB859_747.out
        have hms141_1 := NB859_748.out
        have hms141_2 := NB859_776.out
        have hms141_3 := NB859_785.out
        have hms141_4 := NB859_794.out
        have hms141_5 := NB859_804.out
        refine skip_ (w1 := ?_) (by rfl) rfl ?_ ?_
        rotate_left
        ·go_simp
         rfl
        refine hK.out _ _ ⟨(cF NB747_859 hHeld.1), (cF NB747_859 hHeld.2.1), (cF NB747_859 hHeld.2.2.1), (cF NB747_859 hHeld.2.2.2.1), (cF NB748_859 hHeld.2.2.2.2.1), (cF NB748_859 hHeld.2.2.2.2.2.1), (cF NB748_859 hHeld.2.2.2.2.2.2.1), (cF NB748_859 hHeld.2.2.2.2.2.2.2.1), (cF NB748_859 hHeld.2.2.2.2.2.2.2.2.1), (cF NB748_859 hHeld.2.2.2.2.2.2.2.2.2)⟩ (fun hHeld => ?_)
        clear hK K
        refine pU 10 (some 16) (mB 11 2047) ?_
        refine done_ (done_of HT_.out (by kernel_rfl)) ?_
        have hnb142 := NB859_747.out
        have hnc142 := NB747_859.out
        have hnb143 := NB859_748.out
        have hnc143 := NB748_859.out
        have hnb144 := NB859_776.out
        have hnc144 := NB776_859.out
        have hnb145 := NB859_785.out
        have hnc145 := NB785_859.out
        have hnb146 := NB859_794.out
        have hnc146 := NB794_859.out
        have hnb147 := NB859_804.out
        have hnc147 := NB804_859.out
        have hz148 := cz4 BK859
        have hz149 := cz4 BK776
        try go_wp2_with (first | ((with_reducible refine gC 13 ?_); refine cL (some 104) Tryz.func13 #[.agg #[.int .i64 t850, .int .i64 t851, .slice Ao138 t852.length co138, .slice Ao140 t855.length co140], .agg #[.int .i64 t767, .int .i64 t768, .slice Ao70 t769.length co70, .slice Ao72 t772.length co72]] ?_; (with_reducible refine (laws_eqBand.calls k t850 t851 _ _ t852 _ _ t855 t767 t768 _ _ t769 _ _ t772 _ _ ?side1 ?side2 ?side3 ?side4 ?side5 ?side6 ?side7 ?side8 A46.out).mono ?_); (case side1 => exact (Kd.S_reads' (e := 54) (n := t852.length) (c := co138) (by exact sG HO854 BK859)).2.2); (case side2 => exact (Kd.S_reads' HO854.out).2.1); (case side3 => exact (Kd.S_reads' (e := 49) (n := t855.length) (c := co140) (by exact sG HO857 BK859)).2.2); (case side4 => exact (Kd.S_reads' HO857.out).2.1); (case side5 => exact (Kd.S_reads' (e := 54) (n := t769.length) (c := co70) (by exact sG HO771 BK859)).2.2); (case side6 => exact (Kd.S_reads' HO771.out).2.1); (case side7 => exact (Kd.S_reads' (e := 49) (n := t772.length) (c := co72) (by exact sG HO774 BK859)).2.2); (case side8 => exact (Kd.S_reads' HO774.out).2.1); rintro e w150 ⟨rfl, hb⟩; refine ⟨_, rfl, ?_⟩; replace HO755 := aM (Kd.S_below (by exact sG HO755 BK859) hb); replace HO758 := aM (Kd.S_below (by exact sG HO758 BK859) hb); replace HO761 := aM (Kd.R_below (by exact rG HO761 BK859) hb); replace HO771 := aM (Kd.S_below (by exact sG HO771 BK859) hb); replace HO774 := aM (Kd.S_below (by exact sG HO774 BK859) hb); replace HO799 := aM (Kd.S_below (by exact sG HO799 BK859) hb); replace HO802 := aM (Kd.S_below (by exact sG HO802 BK859) hb); replace HO810 := aM (Kd.S_below (by exact sG HO810 BK859) hb); replace HO813 := aM (Kd.S_below (by exact sG HO813 BK859) hb); replace HO817 := aM (Kd.R_below (by exact rG HO817 BK859) hb); replace HO838 := aM (Kd.S_below (by exact sG HO838 BK859) hb); replace HO841 := aM (Kd.S_below (by exact sG HO841 BK859) hb); replace HO844 := aM (Kd.R_below (by exact rG HO844 BK859) hb); replace HO854 := aM (Kd.S_below (by exact sG HO854 BK859) hb); replace HO857 := aM (Kd.S_below (by exact sG HO857 BK859) hb); replace BK747 := kB_ gb747 hb; replace BK748 := kB_ gb748 hb; replace BK776 := kB_ gb776 hb; replace BK785 := kB_ gb785 hb; replace BK794 := kB_ gb794 hb; replace BK804 := kB_ gb804 hb; replace BK859 := kO gb859 #[.int .i64 t850, .int .i64 t851, .slice Ao138 t852.length co138, .slice Ao140 t855.length co140] 30 hb; replace HB := hB hb; (try clear hb hk); have hz151 := cz4 BK804) | ((with_reducible refine gC 19 ?_); refine goesL_ (some 113) rfl rfl Tryz.func19 (by kernel_rfl) rfl #[.agg #[.int .i64 t795, .int .i64 t796, .slice Ao103 t831.length co103, .slice Ao104 t832.length co104], .int .i64 1] rfl (by (try simp only [List.map_toArray, List.map_cons, List.map_nil]); first | done | (rw [show t831.length = t797.length from (Kd.S_reads' HO799.out).1.symm, show t832.length = t800.length from (Kd.S_reads' HO802.out).1.symm] <;> rfl) | rfl | (simp only [List.length_drop, List.length_take]; rfl)) ?_; (with_reducible refine (laws_heldBand.calls k t795 t796 _ _ t831 _ _ t832 1 t861 _ ?side1 ?side2 ?side3 ?side4 A49.out).mono ?_); (case side1 => exact cS (Kd.S_reads' HO799.out).2.2); (case side2 => rw [show t831.length = t797.length from (Kd.S_reads' HO799.out).1.symm]; exact (Kd.S_reads' HO799.out).2.1); (case side3 => exact cS (Kd.S_reads' HO802.out).2.2); (case side4 => rw [show t832.length = t800.length from (Kd.S_reads' HO802.out).1.symm]; exact (Kd.S_reads' HO802.out).2.1); rintro e w152 ⟨rfl, hb⟩; refine ⟨_, rfl, ?_⟩; replace HO755 := sB HO755 hb; replace HO758 := sB HO758 hb; replace HO761 := aM (Kd.R_below (rS HO761) hb); replace HO771 := sB HO771 hb; replace HO774 := sB HO774 hb; replace HO799 := sB HO799 hb; replace HO802 := sB HO802 hb; replace HO810 := sB HO810 hb; replace HO813 := sB HO813 hb; replace HO817 := aM (Kd.R_below (rS HO817) hb); replace HO838 := sB HO838 hb; replace HO841 := sB HO841 hb; replace HO844 := aM (Kd.R_below (rS HO844) hb); replace HO854 := sB HO854 hb; replace HO857 := sB HO857 hb; replace BK747 := kB_ gb747 hb; replace BK748 := kB_ gb748 hb; replace BK776 := kB_ gb776 hb; replace BK785 := kB_ gb785 hb; replace BK794 := kB_ gb794 hb; replace BK804 := kB_ gb804 hb; replace BK859 := kB_ gb859 hb; replace HB := hB hb; (try clear hb)))
        go_ret
        exact ⟨eS, bS⟩
       ·obtain rfl := Bool.eq_false_iff.mpr c47
        rw [if_neg nF] at H
        exact absurd ((Option.some.inj H).trans hT) (by decide)
      ·obtain rfl := Bool.eq_false_iff.mpr c38
       rw [if_neg nF] at H
       exact absurd ((Option.some.inj H).trans hT) (by decide)
     ·obtain rfl := Bool.eq_false_iff.mpr c33
      rw [if_neg nF] at H
      exact absurd ((Option.some.inj H).trans hT) (by decide)
    ·obtain rfl := Bool.eq_false_iff.mpr c30
     rw [if_neg nF] at H
     exact absurd ((Option.some.inj H).trans hT) (by decide)
   ·obtain rfl := Bool.eq_false_iff.mpr c26
    rw [if_neg nF] at H
    exact absurd ((Option.some.inj H).trans hT) (by decide)

end Go.Proofs.YtncfipboidmfbaaGreat.QFnExactAddToBand
