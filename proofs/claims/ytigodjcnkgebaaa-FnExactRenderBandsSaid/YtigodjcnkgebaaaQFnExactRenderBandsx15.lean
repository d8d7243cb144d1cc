-- Made out of the translation by a program of this session (a changed copy of the print). Not trusted: Lean checks it.
import Derived.Test.YtigodjcnkgebaaaQFnExactRenderBandsx0
import Derived.Test.YtigodjcnkgebaaaQFnExactRenderBandsx10
import Derived.Test.YtigodjcnkgebaaaQFnExactRenderBandsx14
namespace Go.Proofs.Ytigodjcnkgebaaa.QFnExactRenderBands
open Go.RowKit Go.Proofs.YtigodjcnkgebaaaW.PrintWords Go.Proofs.YtigodjcnkgebaaaW.PrintLast Go.Proofs.YtigodjcnkgebaaaW.PrintMore
attribute [local go_sem] max2_int min2_int max_two min_two max_three min_three max_four min_four   -- for this text's walks alone
set_option linter.unusedVariables false
set_option linter.unusedSimpArgs false
set_option maxHeartbeats 8000000
set_option maxRecDepth 100000

/-! ### spec_PaintObject: function 51 -/
mutual
def spec_PaintObject.j0 : Nat → Int → List (List Int) → Bool → List (S171) → Int → Int → Int → Int → Int → Option ((List (List Int)) × Bool)
 | 0, _, _, _, _, _, _, _, _, _ => none
 | k + 1, x1, x8, x27, x467000, x467001, x467002, x467003, x467004, x467005 => if x27 = true then (some (x8, false)) else (spec_PaintObject.l0 k x1 x8 0 x467000 x467001 x467002 x467003 x467004 x467005)
def spec_PaintObject.l0 : Nat → Int → List (List Int) → Int → List (S171) → Int → Int → Int → Int → Int → Option ((List (List Int)) × Bool)
 | 0, _, _, _, _, _, _, _, _, _ => none
 | k + 1, x1, x8, x9, x467000, x467001, x467002, x467003, x467004, x467005 => if x9 < (x8.length : Int) then ((spec_ObjectRow.f k x467000 x467001 x467002 x467003 x467004 x467005 (wrap64 (x1 + x9))).bind fun t473 => (spec_PaintObject.l1 k x1 x8 x9 t473 0 x467000 x467001 x467002 x467003 x467004 x467005)) else (some (x8, true))
def spec_PaintObject.l1 : Nat → Int → List (List Int) → Int → List (S124) → Int → List (S171) → Int → Int → Int → Int → Int → Option ((List (List Int)) × Bool)
 | 0, _, _, _, _, _, _, _, _, _, _, _ => none
 | k + 1, x1, x8, x9, x10, x11, x467000, x467001, x467002, x467003, x467004, x467005 => if x11 < (x10.length : Int) then (if 0 ≤ x11 then (spec_PaintObject.l2 k x1 x8 x9 x10 x11 ((rd_T124 x10 x11).f0) x467000 x467001 x467002 x467003 x467004 x467005) else (none)) else (spec_PaintObject.l0 k x1 x8 (wrap64 (x9 + 1)) x467000 x467001 x467002 x467003 x467004 x467005)
def spec_PaintObject.l2 : Nat → Int → List (List Int) → Int → List (S124) → Int → Int → List (S171) → Int → Int → Int → Int → Int → Option ((List (List Int)) × Bool)
 | 0, _, _, _, _, _, _, _, _, _, _, _, _ => none
 | k + 1, x1, x8, x9, x10, x11, x12, x467000, x467001, x467002, x467003, x467004, x467005 => if 0 ≤ x11 then (if x11 < (x10.length : Int) then (if x12 < ((rd_T124 x10 x11).f1) then (if 0 ≤ x9 then (if x9 < (x8.length : Int) then (if 0 ≤ x12 then (if x12 < ((rd_L1 x8 x9).length : Int) then (spec_PaintObject.l2 k x1 (x8.set (x9 : Int).toNat ((rd_L1 x8 x9).set (x12 : Int).toNat x467001)) x9 x10 x11 (wrap64 (x12 + 1)) x467000 x467001 x467002 x467003 x467004 x467005) else (none)) else (none)) else (none)) else (none)) else (spec_PaintObject.l1 k x1 x8 x9 x10 (wrap64 (x11 + 1)) x467000 x467001 x467002 x467003 x467004 x467005)) else (none)) else (none)
end
def spec_PaintObject.f (k : Nat) (l0 : List (List Int)) (a1 : Int) (l2_0 : List (S171)) (a2_1 : Int) (a2_2 : Int) (a2_3 : Int) (a2_4 : Int) (a2_5 : Int) : Option ((List (List Int)) × Bool) := (spec_l11Copy.f k l0).bind fun t467 => ((spec_RowsOk.f k l0).bind fun t470 => (if t470 = true then ((spec_ObjectOk.f k l2_0 a2_1 a2_2 a2_3 a2_4 a2_5).bind fun t471 => (if t471 = true then ((spec_l01In.f a1 0 32).bind fun t472 => (spec_PaintObject.j0 k a1 t467 (!t472) l2_0 a2_1 a2_2 a2_3 a2_4 a2_5)) else (spec_PaintObject.j0 k a1 t467 true l2_0 a2_1 a2_2 a2_3 a2_4 a2_5))) else (spec_PaintObject.j0 k a1 t467 true l2_0 a2_1 a2_2 a2_3 a2_4 a2_5)))
def spec_PaintObject.T14 : Bool × List (List Nat × List Nat) := (true, [([], []), ([], []), ([0, 1], [0, 1]), ([2], [2]), ([], []), ([], []), ([5], [5]), ([3, 4, 0, 1, 2, 3, 4, 5, 6], [3, 4]), ([7, 6, 0, 1, 2, 3, 4, 5, 6], [6, 7])])
def spec_PaintObject.B14 : List Nat := [0, 0, 3, 7, 0, 0, 32, 127, 255]
theorem spec_PaintObject.tab14 : rtab .any (opsOf Try.f51 14) = spec_PaintObject.T14 := by kernel_rfl
theorem spec_PaintObject.bits14 : waitsOk spec_PaintObject.T14.2 spec_PaintObject.B14 = true := by kernel_rfl
theorem spec_PaintObject.calls (k : Nat) (A0 : Option Addr) (c0 : Nat) (l0 : List (List Int)) (a1 : Int) (A2_0 : Option Addr) (c2_0 : Nat) (l2_0 : List (S171)) (a2_1 : Int) (a2_2 : Int) (a2_3 : Int) (a2_4 : Int) (a2_5 : Int) (r1 : List (List Int)) (r2 : Bool) (w : World) (hr0 : Kd.C (Kd.slice 3 (Kd.int .i64)) w A0 l0.length l0) (hc0 : l0.length ≤ c0) (hr2_0 : Kd.C k171 w A2_0 l2_0.length l2_0) (hc2_0 : l2_0.length ≤ c2_0) (h : spec_PaintObject.f k l0 a1 l2_0 a2_1 a2_2 a2_3 a2_4 a2_5 = some (r1, r2)) :
  Calls Try.prog 51 #[.slice A0 l0.length c0, .int .i64 a1, .agg #[.slice A2_0 l2_0.length c2_0, .int .i64 a2_1, .int .i64 a2_2, .int .i64 a2_3, .int .i64 a2_4, .int .i64 a2_5]] w fun e w' => ∃ v0_ : Value, e = .returned (.tuple #[v0_, .bool r2]) ∧ Kd.S (Kd.slice 3 (Kd.int .i64)) 71 w' w.heap.size (fun _ => True) v0_ r1 ∧ Below w.heap.size w w' := by
 have hu45 := Try.underlying45
 have HR0 := Aside0.mk hr0
 have HC0 := Aside0.mk hc0
 clear hr0 hc0
 have HR2_0 := Aside0.mk hr2_0
 have HC2_0 := Aside0.mk hc2_0
 clear hr2_0 hc2_0
 have HB := Aside0.mk (Below.refl w.heap.size w)
 have H : ((spec_l11Copy.f k l0).bind fun t467 => ((spec_RowsOk.f k l0).bind fun t470 => (if t470 = true then ((spec_ObjectOk.f k l2_0 a2_1 a2_2 a2_3 a2_4 a2_5).bind fun t471 => (if t471 = true then ((spec_l01In.f a1 0 32).bind fun t472 => (spec_PaintObject.j0 k a1 t467 (!t472) l2_0 a2_1 a2_2 a2_3 a2_4 a2_5)) else (spec_PaintObject.j0 k a1 t467 true l2_0 a2_1 a2_2 a2_3 a2_4 a2_5))) else (spec_PaintObject.j0 k a1 t467 true l2_0 a2_1 a2_2 a2_3 a2_4 a2_5)))) = some (r1, r2) := h
 clear h
 replace H := bN H
 obtain ⟨t467, A4, H⟩ := H
 have HC5 := Aside0.mk H
 clear H
 go_enter Try.func51, Try.ntmps51
 go_upto_region 2 with (first | ((with_reducible refine gD 5 ?_); refine bxE #[.slice A2_0 l2_0.length c2_0, .int .i64 a2_1, .int .i64 a2_2, .int .i64 a2_3, .int .i64 a2_4, .int .i64 a2_5] 45 ?_; intro gb466 hg w6 BK466 hb; have GW466 := gE hg; have GE466 := gE hg; replace HB := hB hb; clear hb hg) | ((with_reducible refine gC 122 ?_); refine cL (some 14) Try.func122 #[.slice A0 l0.length c0] ?_; (with_reducible refine (spec_l11Copy.calls k _ _ l0 t467 _ (cS (Kd.C_below HR0.out HB.out)) HC0.out A4.out).mono ?_); rintro e w7 ⟨v468, rfl, ho0, hb⟩; refine ⟨_, rfl, ?_⟩; have HO469 := Aside0.mk (Kd.S_lower ho0 (below_size bS)); replace BK466 := kB (g := gb466) hb; replace HB := hB hb; (try clear hb); (try clear hb2); (try clear hk); (try clear hi); (try clear ho0)))
 (try simp only [Act.put, List.setIfInBounds_toArray, List.set_cons_zero, List.set_cons_succ])
 go_cut [27] (fun v27 wc => ∃ (kq : Nat) (x27_4 : Bool), v27 = .bool x27_4 ∧ Aside0 (spec_PaintObject.j0 kq a1 t467 x27_4 l2_0 a2_1 a2_2 a2_3 a2_4 a2_5 = some (r1, r2)) ∧ Aside0 (kq ≤ k) ∧ Aside0 (Kd.S (Kd.slice 3 (Kd.int .i64)) 71 wc w.heap.size (fun _ => True) v468 t467) ∧ Aside0 (wc.heap[gb466]? = some (.cells #[(.slice A2_0 l2_0.length c2_0), .int .i64 a2_1, .int .i64 a2_2, .int .i64 a2_3, .int .i64 a2_4, .int .i64 a2_5] 45 (0, 0))) ∧ Aside0 (Below w.heap.size w wc))
 case first =>
  have H := HC5.out
  clear HC5
  replace H := bN H
  obtain ⟨t470, A8, H⟩ := H
  by_cases c9 : t470 = true
  ·subst c9
   rw [if_pos rfl] at H
   replace H := bN H
   obtain ⟨t471, A10, H⟩ := H
   by_cases c11 : t471 = true
   ·subst c11
    rw [if_pos rfl] at H
    replace H := bN H
    obtain ⟨t472, A12, H⟩ := H
    have H' := Aside0.mk H
    clear H
    go_wp2_with (first | ((with_reducible refine gC 97 ?_); refine cL (some 16) Try.func97 #[.slice A0 l0.length c0] ?_; (with_reducible refine (spec_RowsOk.calls k _ _ l0 _ _ (cS (Kd.C_below HR0.out HB.out)) HC0.out A8.out).mono ?_); rintro e w' ⟨rfl, ⟨nd, rfl⟩⟩; refine ⟨_, rfl, ?_⟩; have hcz13_0 : w7.cell? ⟨gb466, 0, none⟩ = some (.slice A2_0 l2_0.length c2_0) := (blk_cell BK466.out 0).trans rfl; have hcz13_1 : w7.cell? ⟨gb466, 1, none⟩ = some (.int .i64 a2_1) := (blk_cell BK466.out 1).trans rfl; have hcz13_2 : w7.cell? ⟨gb466, 2, none⟩ = some (.int .i64 a2_2) := (blk_cell BK466.out 2).trans rfl; have hcz13_3 : w7.cell? ⟨gb466, 3, none⟩ = some (.int .i64 a2_3) := (blk_cell BK466.out 3).trans rfl; have hcz13_4 : w7.cell? ⟨gb466, 4, none⟩ = some (.int .i64 a2_4) := (blk_cell BK466.out 4).trans rfl; have hcz13_5 : w7.cell? ⟨gb466, 5, none⟩ = some (.int .i64 a2_5) := (blk_cell BK466.out 5).trans rfl; have hfz13_0 := blk_frozen BK466.out 0; have hfz13_1 := blk_frozen BK466.out 1; have hfz13_2 := blk_frozen BK466.out 2; have hfz13_3 := blk_frozen BK466.out 3; have hfz13_4 := blk_frozen BK466.out 4; have hfz13_5 := blk_frozen BK466.out 5) | (go_at_call 95; (with_reducible refine (spec_ObjectOk.calls k _ _ l2_0 a2_1 a2_2 a2_3 a2_4 a2_5 _ _ (cS (Kd.C_below HR2_0.out bS)) HC2_0.out A10.out).mono ?_); rintro e w14 ⟨rfl, hb⟩; replace HO469 := sB HO469 hb; replace BK466 := kB (g := gb466) hb; replace HB := hB hb; (try clear hb); (try clear hb2); (try clear hk); (try clear hi)) | (go_at_call 123; (with_reducible refine (spec_l01In.calls a1 0 32 t472 _ A12.out).mono ?_); rintro e w' ⟨rfl, ⟨nd, rfl⟩⟩))
    go_meet
    case rel => exact ⟨_, (!t472), fS, H', ⟨by first | omega | exact Nat.le_refl _⟩, ⟨sS HO469⟩, ⟨kS⟩, ⟨bS⟩⟩
   ·obtain rfl := Bool.eq_false_iff.mpr c11
    rw [if_neg nF] at H
    have H' := Aside0.mk H
    clear H
    go_wp2_with (first | ((with_reducible refine gC 97 ?_); refine cL (some 16) Try.func97 #[.slice A0 l0.length c0] ?_; (with_reducible refine (spec_RowsOk.calls k _ _ l0 _ _ (cS (Kd.C_below HR0.out HB.out)) HC0.out A8.out).mono ?_); rintro e w' ⟨rfl, ⟨nd, rfl⟩⟩; refine ⟨_, rfl, ?_⟩; have hcz15_0 : w7.cell? ⟨gb466, 0, none⟩ = some (.slice A2_0 l2_0.length c2_0) := (blk_cell BK466.out 0).trans rfl; have hcz15_1 : w7.cell? ⟨gb466, 1, none⟩ = some (.int .i64 a2_1) := (blk_cell BK466.out 1).trans rfl; have hcz15_2 : w7.cell? ⟨gb466, 2, none⟩ = some (.int .i64 a2_2) := (blk_cell BK466.out 2).trans rfl; have hcz15_3 : w7.cell? ⟨gb466, 3, none⟩ = some (.int .i64 a2_3) := (blk_cell BK466.out 3).trans rfl; have hcz15_4 : w7.cell? ⟨gb466, 4, none⟩ = some (.int .i64 a2_4) := (blk_cell BK466.out 4).trans rfl; have hcz15_5 : w7.cell? ⟨gb466, 5, none⟩ = some (.int .i64 a2_5) := (blk_cell BK466.out 5).trans rfl; have hfz15_0 := blk_frozen BK466.out 0; have hfz15_1 := blk_frozen BK466.out 1; have hfz15_2 := blk_frozen BK466.out 2; have hfz15_3 := blk_frozen BK466.out 3; have hfz15_4 := blk_frozen BK466.out 4; have hfz15_5 := blk_frozen BK466.out 5) | (go_at_call 95; (with_reducible refine (spec_ObjectOk.calls k _ _ l2_0 a2_1 a2_2 a2_3 a2_4 a2_5 _ _ (cS (Kd.C_below HR2_0.out bS)) HC2_0.out A10.out).mono ?_); rintro e w16 ⟨rfl, hb⟩; replace HO469 := sB HO469 hb; replace BK466 := kB (g := gb466) hb; replace HB := hB hb; (try clear hb); (try clear hb2); (try clear hk); (try clear hi)))
    go_meet
    case rel => exact ⟨_, (true), fS, H', ⟨by first | omega | exact Nat.le_refl _⟩, ⟨sS HO469⟩, ⟨kS⟩, ⟨bS⟩⟩
  ·obtain rfl := Bool.eq_false_iff.mpr c9
   rw [if_neg nF] at H
   have H' := Aside0.mk H
   clear H
   go_wp2_with (first | ((with_reducible refine gC 97 ?_); refine cL (some 16) Try.func97 #[.slice A0 l0.length c0] ?_; (with_reducible refine (spec_RowsOk.calls k _ _ l0 _ _ (cS (Kd.C_below HR0.out HB.out)) HC0.out A8.out).mono ?_); rintro e w' ⟨rfl, ⟨nd, rfl⟩⟩; refine ⟨_, rfl, ?_⟩))
   go_meet
   case rel => exact ⟨_, (true), fS, H', ⟨by first | omega | exact Nat.le_refl _⟩, ⟨sS HO469⟩, ⟨kS⟩, ⟨bS⟩⟩
 case rest =>
  clear HC5
  try clear c1
  try clear c2
  try clear p2
  try clear c5
  try clear c9
  try clear c11
  try clear c12
  try clear hcz13_0
  try clear hcz13_1
  try clear hcz13_2
  try clear hcz13_3
  try clear hcz13_4
  try clear hcz13_5
  try clear hcz15_0
  try clear hcz15_1
  try clear hcz15_2
  try clear hcz15_3
  try clear hcz15_4
  try clear hcz15_5
  try clear hfz13_0
  try clear hfz13_1
  try clear hfz13_2
  try clear hfz13_3
  try clear hfz13_4
  try clear hfz13_5
  try clear hfz15_0
  try clear hfz15_1
  try clear hfz15_2
  try clear hfz15_3
  try clear hfz15_4
  try clear hfz15_5
  obtain ⟨kq, x27_4, rfl, HA, HJ4, HO_8, BK466, HB⟩ := hcut
  cases kq with
  | zero => exact absurd HA.out (by simp [spec_PaintObject.j0])
  | succ kj4 =>
   have H := HA.out
   clear HA
   simp only [spec_PaintObject.j0] at H
   by_cases c17 : x27_4 = true
   ·subst c17
    rw [if_pos rfl] at H
    obtain ⟨rfl, rfl⟩ := sI2 H
    go_wp2
    go_ret2
    exact ⟨_, eS, sS HO_8, bS⟩
   ·obtain rfl := Bool.eq_false_iff.mpr c17
    rw [if_neg nF] at H
    have H' := Aside0.mk H
    clear H
    go_wp2
    go_loopg [9] kj4 (fun kq v9 w' => ∃ (x8_2 : List (List Int)) (x9_2 : Int), v9 = .int .i64 x9_2 ∧ Aside0 (spec_PaintObject.l0 kq a1 x8_2 x9_2 l2_0 a2_1 a2_2 a2_3 a2_4 a2_5 = some (r1, r2)) ∧ Aside0 (kq ≤ kj4) ∧ Aside0 (Kd.S (Kd.slice 3 (Kd.int .i64)) 71 w' w.heap.size (fun _ => True) v468 x8_2) ∧ Aside0 (w'.heap[gb466]? = some (.cells #[(.slice A2_0 l2_0.length c2_0), .int .i64 a2_1, .int .i64 a2_2, .int .i64 a2_3, .int .i64 a2_4, .int .i64 a2_5] 45 (0, 0))) ∧ Aside0 (Below w.heap.size w w'))
    case atStart => exact ⟨(t467), (0), fS, H', ⟨Nat.le_refl _⟩, ⟨sS HO_8⟩, ⟨kS⟩, ⟨bS⟩⟩
    case round =>
     clear H'
     try clear c1
     try clear c2
     try clear p2
     try clear c5
     try clear c9
     try clear c11
     try clear c12
     try clear c17
     try clear hcz13_0
     try clear hcz13_1
     try clear hcz13_2
     try clear hcz13_3
     try clear hcz13_4
     try clear hcz13_5
     try clear hcz15_0
     try clear hcz15_1
     try clear hcz15_2
     try clear hcz15_3
     try clear hcz15_4
     try clear hcz15_5
     try clear hfz13_0
     try clear hfz13_1
     try clear hfz13_2
     try clear hfz13_3
     try clear hfz13_4
     try clear hfz13_5
     try clear hfz15_0
     try clear hfz15_1
     try clear hfz15_2
     try clear hfz15_3
     try clear hfz15_4
     try clear hfz15_5
     try clear p2
     obtain ⟨x8_2, x9_2, rfl, HA, HK2, HO_8, BK466, HB⟩ := hrel
     cases gk with
     | zero => exact absurd HA.out (by simp [spec_PaintObject.l0])
     | succ k2 =>
      have H := HA.out
      clear HA
      simp only [spec_PaintObject.l0] at H
      by_cases c18 : x9_2 < (x8_2.length : Int)
      ·rw [if_pos c18] at H
       have c18b0 : decide (x9_2 < (x8_2.length : Int)) = true := decide_eq_true c18
       clear c18
       replace H := bN H
       obtain ⟨t473, A19, H⟩ := H
       have H' := Aside0.mk H
       clear H
       obtain ⟨Ao20, co20, eo20⟩ := Kd.S_slice HO_8.out
       subst eo20
       have hcz21_0 : wr.cell? ⟨gb466, 0, none⟩ = some (.slice A2_0 l2_0.length c2_0) := (blk_cell BK466.out 0).trans rfl
       have hcz21_1 : wr.cell? ⟨gb466, 1, none⟩ = some (.int .i64 a2_1) := (blk_cell BK466.out 1).trans rfl
       have hcz21_2 : wr.cell? ⟨gb466, 2, none⟩ = some (.int .i64 a2_2) := (blk_cell BK466.out 2).trans rfl
       have hcz21_3 : wr.cell? ⟨gb466, 3, none⟩ = some (.int .i64 a2_3) := (blk_cell BK466.out 3).trans rfl
       have hcz21_4 : wr.cell? ⟨gb466, 4, none⟩ = some (.int .i64 a2_4) := (blk_cell BK466.out 4).trans rfl
       have hcz21_5 : wr.cell? ⟨gb466, 5, none⟩ = some (.int .i64 a2_5) := (blk_cell BK466.out 5).trans rfl
       have hfz21_0 := blk_frozen BK466.out 0
       have hfz21_1 := blk_frozen BK466.out 1
       have hfz21_2 := blk_frozen BK466.out 2
       have hfz21_3 := blk_frozen BK466.out 3
       have hfz21_4 := blk_frozen BK466.out 4
       have hfz21_5 := blk_frozen BK466.out 5
       go_wp2_with (first | ((with_reducible refine gC 24 ?_); refine cL (some 39) Try.func24 #[.agg #[.slice A2_0 l2_0.length c2_0, .int .i64 a2_1, .int .i64 a2_2, .int .i64 a2_3, .int .i64 a2_4, .int .i64 a2_5], .int .i64 (wrap64 (a1 + x9_2))] ?_; (with_reducible refine (spec_ObjectRow.calls k2 _ _ l2_0 a2_1 a2_2 a2_3 a2_4 a2_5 (wrap64 (a1 + x9_2)) t473 _ (cS (Kd.C_below HR2_0.out HB.out)) HC2_0.out A19.out).mono ?_); rintro e w22 ⟨v474, rfl, ho0, hb⟩; refine ⟨_, rfl, ?_⟩; have HO475 := Aside0.mk (Kd.R_lower ho0 (below_size bS)); replace HO_8 := sB HO_8 hb; replace BK466 := kB (g := gb466) hb; replace HB := hB hb; (try clear hb); (try clear hb2); (try clear hk); (try clear hi); (try clear ho0)))
       go_loopg [11] k2 (fun kq v11 w' => ∃ (x8_3 : List (List Int)) (x11_3 : Int), v11 = .int .i64 x11_3 ∧ Aside0 (spec_PaintObject.l1 kq a1 x8_3 x9_2 t473 x11_3 l2_0 a2_1 a2_2 a2_3 a2_4 a2_5 = some (r1, r2)) ∧ Aside0 (kq ≤ k2) ∧ Aside0 (Kd.S (Kd.slice 3 (Kd.int .i64)) 71 w' w.heap.size (fun _ => True) (.slice Ao20 x8_2.length co20) x8_3) ∧ Aside0 (Kd.R k124 124 w' w.heap.size (fun _ => True) v474 t473) ∧ Aside0 (w'.heap[gb466]? = some (.cells #[(.slice A2_0 l2_0.length c2_0), .int .i64 a2_1, .int .i64 a2_2, .int .i64 a2_3, .int .i64 a2_4, .int .i64 a2_5] 45 (0, 0))) ∧ Aside0 (Below w.heap.size w w'))
       case atStart => exact ⟨(x8_2), (0), fS, H', ⟨Nat.le_refl _⟩, ⟨sS HO_8⟩, ⟨rS HO475⟩, ⟨kS⟩, ⟨bS⟩⟩
       case round =>
        clear H'
        try clear c1
        try clear c2
        try clear p2
        try clear c5
        try clear p6
        try clear c9
        try clear c11
        try clear c12
        try clear c17
        try clear c18
        try clear c18b0
        try clear hcz13_0
        try clear hcz13_1
        try clear hcz13_2
        try clear hcz13_3
        try clear hcz13_4
        try clear hcz13_5
        try clear hcz15_0
        try clear hcz15_1
        try clear hcz15_2
        try clear hcz15_3
        try clear hcz15_4
        try clear hcz15_5
        try clear hcz21_0
        try clear hcz21_1
        try clear hcz21_2
        try clear hcz21_3
        try clear hcz21_4
        try clear hcz21_5
        try clear hfz13_0
        try clear hfz13_1
        try clear hfz13_2
        try clear hfz13_3
        try clear hfz13_4
        try clear hfz13_5
        try clear hfz15_0
        try clear hfz15_1
        try clear hfz15_2
        try clear hfz15_3
        try clear hfz15_4
        try clear hfz15_5
        try clear hfz21_0
        try clear hfz21_1
        try clear hfz21_2
        try clear hfz21_3
        try clear hfz21_4
        try clear hfz21_5
        try clear p2
        obtain ⟨x8_3, x11_3, rfl, HA, HK3, HO_8, HO_10, BK466, HB⟩ := hrel
        have hl8_3 := (Kd.S_reads' HO_8.out).1
        rw [hl8_3] at HO_8
        (try simp only [hl8_3])
        (try simp only [hl8_3] at BK466)
        (try simp only [hl8_3] at HO_10)
        cases gk with
        | zero => exact absurd HA.out (by simp [spec_PaintObject.l1])
        | succ k3 =>
         have H := HA.out
         clear HA
         simp only [spec_PaintObject.l1] at H
         by_cases c23 : x11_3 < (t473.length : Int)
         ·rw [if_pos c23] at H
          have c23b0 : decide (x11_3 < (t473.length : Int)) = true := decide_eq_true c23
          (try (have c23b0_ := c23b0; simp only [hl8_3] at c23b0_))
          clear c23
          by_cases c24 : 0 ≤ x11_3
          ·rw [if_pos c24] at H
           have c24b0 : decide (0 ≤ x11_3) = true := decide_eq_true c24
           clear c24
           have H' := Aside0.mk H
           clear H
           obtain ⟨Ao25, co25, eo25⟩ := Kd.R_slice HO_10.out
           subst eo25
           have p476 : 0 ≤ (x11_3 : Int) := dA
           have q476 : x11_3 < (t473.length : Int) := dA
           obtain ⟨ad476, e476, hx476_0, hx476_1⟩ := at_T124 (Kd.R_reads' HO_10.out).2.2 x11_3 p476 q476
           cases e476
           replace p476 := eq_true p476
           replace q476 := eq_true q476
           go_wp2
           go_loopg [12] k3 (fun kq v12 w' => ∃ (x8_4 : List (List Int)) (x12_4 : Int), v12 = .int .i64 x12_4 ∧ Aside0 (spec_PaintObject.l2 kq a1 x8_4 x9_2 t473 x11_3 x12_4 l2_0 a2_1 a2_2 a2_3 a2_4 a2_5 = some (r1, r2)) ∧ Aside0 (kq ≤ k3) ∧ Aside0 (Kd.S (Kd.slice 3 (Kd.int .i64)) 71 w' w.heap.size (fun _ => True) (.slice Ao20 x8_3.length co20) x8_4) ∧ Aside0 (Kd.R k124 124 w' w.heap.size (fun _ => True) (.slice (some ad476) t473.length co25) t473) ∧ Aside0 (w'.heap[gb466]? = some (.cells #[(.slice A2_0 l2_0.length c2_0), .int .i64 a2_1, .int .i64 a2_2, .int .i64 a2_3, .int .i64 a2_4, .int .i64 a2_5] 45 (0, 0))) ∧ Aside0 (Below w.heap.size w w'))
           case atStart => exact ⟨(x8_3), ((rd_T124 t473 x11_3).f0), fS, H', ⟨Nat.le_refl _⟩, ⟨by (try simp only [hl8_3]); (with_reducible repeat (first | apply Kd.S_alloc | apply Kd.S_drewN | apply Kd.S_drew)); exact HO_8.out⟩, ⟨by (try simp only [hl8_3]); (with_reducible repeat (first | apply Kd.R_alloc | apply Kd.R_drewN | apply Kd.R_drew)); exact HO_10.out⟩, ⟨by (try simp only [hl8_3]); (with_reducible repeat (first | refine blk_drewN ?_ _ | refine blk_drew ?_ | refine blk_alloc ?_ _)); exact BK466.out⟩, ⟨bS⟩⟩
           case round =>
            clear H'
            try clear c1
            try clear c2
            try clear p2
            try clear p4
            try clear q4
            try clear hx4
            try clear c5
            try clear p6
            try clear c9
            try clear c11
            try clear c12
            try clear c17
            try clear c18
            try clear c18b0
            try clear c23
            try clear c23b0
            try clear c24
            try clear c24b0
            try clear hcz13_0
            try clear hcz13_1
            try clear hcz13_2
            try clear hcz13_3
            try clear hcz13_4
            try clear hcz13_5
            try clear hcz15_0
            try clear hcz15_1
            try clear hcz15_2
            try clear hcz15_3
            try clear hcz15_4
            try clear hcz15_5
            try clear hcz21_0
            try clear hcz21_1
            try clear hcz21_2
            try clear hcz21_3
            try clear hcz21_4
            try clear hcz21_5
            try clear hfz13_0
            try clear hfz13_1
            try clear hfz13_2
            try clear hfz13_3
            try clear hfz13_4
            try clear hfz13_5
            try clear hfz15_0
            try clear hfz15_1
            try clear hfz15_2
            try clear hfz15_3
            try clear hfz15_4
            try clear hfz15_5
            try clear hfz21_0
            try clear hfz21_1
            try clear hfz21_2
            try clear hfz21_3
            try clear hfz21_4
            try clear hfz21_5
            try clear hx476_0
            try clear hx476_1
            try clear p2
            try clear p476
            try clear p6
            try clear q476
            obtain ⟨x8_4, x12_4, rfl, HA, HK4, HO_8, HO_10, BK466, HB⟩ := hrel
            have hl8_4 := (Kd.S_reads' HO_8.out).1
            rw [hl8_4] at HO_8
            (try simp only [hl8_4])
            (try simp only [hl8_4] at BK466)
            (try simp only [hl8_4] at HO_10)
            cases gk with
            | zero => exact absurd HA.out (by simp [spec_PaintObject.l2])
            | succ k4 =>
             have H := HA.out
             clear HA
             simp only [spec_PaintObject.l2] at H
             obtain ⟨c26b0, H⟩ := iT H
             by_cases c27 : x11_3 < (t473.length : Int)
             ·rw [if_pos c27] at H
              have c27b0 : decide (x11_3 < (t473.length : Int)) = true := decide_eq_true c27
              (try (have c27b0_ := c27b0; simp only [hl8_3, hl8_4] at c27b0_))
              clear c27
              rcases iD H with ⟨c28b0, H⟩ | ⟨c28b0, H⟩
              ·obtain ⟨c29b0, H⟩ := iT H
               by_cases c30 : x9_2 < (x8_4.length : Int)
               ·rw [if_pos c30] at H
                have c30b0 : decide (x9_2 < (x8_4.length : Int)) = true := decide_eq_true c30
                (try (have c30b0_ := c30b0; simp only [hl8_3, hl8_4] at c30b0_))
                clear c30
                obtain ⟨c31b0, H⟩ := iT H
                by_cases c32 : x12_4 < ((rd_L1 x8_4 x9_2).length : Int)
                ·rw [if_pos c32] at H
                 have c32b0 : decide (x12_4 < ((rd_L1 x8_4 x9_2).length : Int)) = true := decide_eq_true c32
                 (try (have c32b0_ := c32b0; simp only [hl8_3, hl8_4] at c32b0_))
                 clear c32
                 obtain ⟨y479, hy479⟩ : ∃ y_ : List Int, y_ = ((rd_L1 x8_4 x9_2).set (x12_4 : Int).toNat a2_1) := ⟨_, rfl⟩
                 replace H : (spec_PaintObject.l2 k4 a1 (x8_4.set (x9_2 : Int).toNat y479) x9_2 t473 x11_3 (wrap64 (x12_4 + 1)) l2_0 a2_1 a2_2 a2_3 a2_4 a2_5) = some (r1, r2) := by first | (rw [hy479]; with_reducible exact H) | (have H2_ := (Option.bind_some _ _).symm.trans H; rw [hy479]; with_reducible exact H2_) | (have H2_ := (Option.bind_some _ _).symm.trans H; with_reducible exact H2_) | with_reducible exact H | (rw [hy479]; exact H) | exact H
                 have Ny479 := Aside0.mk hy479
                 clear hy479
                 obtain ⟨y481, hy481⟩ : ∃ y_ : List (List Int), y_ = (x8_4.set (x9_2 : Int).toNat y479) := ⟨_, rfl⟩
                 replace H : (spec_PaintObject.l2 k4 a1 y481 x9_2 t473 x11_3 (wrap64 (x12_4 + 1)) l2_0 a2_1 a2_2 a2_3 a2_4 a2_5) = some (r1, r2) := by first | (rw [hy481]; with_reducible exact H) | (have H2_ := (Option.bind_some _ _).symm.trans H; rw [hy481]; with_reducible exact H2_) | (have H2_ := (Option.bind_some _ _).symm.trans H; with_reducible exact H2_) | with_reducible exact H | (rw [hy481]; exact H) | exact H
                 have Ny481 := Aside0.mk hy481
                 clear hy481
                 have H' := Aside0.mk H
                 clear H
                 have p477 : 0 ≤ (x11_3 : Int) := dA
                 have q477 : x11_3 < (t473.length : Int) := dA
                 obtain ⟨ad477, e477, hx477_0, hx477_1⟩ := at_T124 (Kd.R_reads' HO_10.out).2.2 x11_3 p477 q477
                 obtain rfl : ad476 = ad477 := (by injection e477)
                 replace p477 := eq_true p477
                 replace q477 := eq_true q477
                 try go_wp2
                 replace HO_8 := Aside0.mk (Kd.S_drew HO_8.out)
                 replace HO_10 := Aside0.mk (Kd.R_drew HO_10.out)
                 replace BK466 := Aside0.mk (blk_drew BK466.out)
                 replace HB := Aside0.mk (below_drew1 HB.out)
                 have p478 : 0 ≤ (x9_2 : Int) := dA
                 have q478 : x9_2 < (x8_4.length : Int) := dA
                 obtain ⟨ad478, A478_0, c478_0, e478, hx478_0, hl478_0, hi478_0⟩ := at_L1 (Kd.S_reads' HO_8.out).2.2 x9_2 p478 q478
                 cases e478
                 obtain ⟨ce478, hce478, hMe478, hcc478⟩ := Kd.S_get HO_8.out [] x9_2 p478 (by first | exact q478 | exact dA | (have e_ := (Kd.S_reads' HO_8.out).1; omega))
                 obtain ⟨ve478_0, rfl, ge478_0⟩ := hMe478
                 have hv478_0 := hcc478 0 _ rfl
                 rw [Nat.add_zero, show ((Kd.slice 3 (Kd.int .i64))).sz = 1 from rfl, Nat.mul_one] at hv478_0
                 replace hv478_0 := Option.some.inj (hv478_0.symm.trans hx478_0)
                 rw [hv478_0] at ge478_0
                 have HL478_0 := Aside0.mk (show Kd.R (Kd.int .i64) 3 _ _ _ _ (rd_L1 x8_4 x9_2) from ge478_0)
                 clear hv478_0 ge478_0
                 have HX478_0 := Aside0.mk hx478_0
                 clear hcc478 hce478
                 have HR478_0 := Aside0.mk hi478_0
                 have HC478_0 := Aside0.mk hl478_0
                 clear hi478_0 hl478_0
                 replace p478 := eq_true p478
                 replace q478 := eq_true q478
                 have p33 : 0 ≤ (x12_4 : Int) := dA
                 have q33 : (x12_4 : Int) < (((rd_L1 x8_4 x9_2).length : Int) : Int) := dA
                 obtain ⟨go33, co33, eo33, gb33, gl33, cl33, HG33⟩ := Kd.R_form HL478_0.out (by omega)
                 (first | cases eo33 | (injection eo33 with ea_ en_ ec_; (first | subst ea_ | (injection ea_ with ea_; subst ea_)); subst ec_; clear en_))
                 have GB33 := Aside0.mk gb33
                 have GG33 := Aside0.mk HG33
                 clear gb33 gl33 HG33
                 obtain ⟨hx33_0, hf33_0⟩ := Kd.R_celln 0 HL478_0.out (x12_4 : Int) p33 q33
                 replace p33 := eq_true p33
                 replace q33 := eq_true q33
                 have hq35 : (x9_2 : Int) < (x8_4.length : Int) := (by have h_ : (x9_2 : Int) < ((x8_4.length : Int) : Int) := dA; first | exact h_ | (have e_ := (Kd.S_reads' HO_8.out).1; omega) | simpa only [List.length_set, List.length_set] using h_)
                 obtain ⟨oki35, ce35, hcl35, hM35, hcc35, hok35, hbk35⟩ := Kd.S_borrow HO_8.out [] (x9_2 : Int) (dA) hq35
                 obtain ⟨ve35_0, rfl, ge35_0⟩ := hM35
                 have hv35 := hcc35 0 _ rfl
                 rw [Nat.add_zero, show ((Kd.slice 3 (Kd.int .i64))).sz = 1 from rfl, Nat.mul_one] at hv35
                 replace hv35 := Option.some.inj (hv35.symm.trans HX478_0.out)
                 subst hv35
                 clear hcc35 hcl35
                 replace ge35_0 := (show Kd.R (Kd.int .i64) 3 _ _ _ _ (rd_L1 x8_4 x9_2) from ge35_0)
                 have HP35 := Kd.R_putg ge35_0 (x12_4 : Int) a2_1
                 rw [← Ny479.out] at HP35
                 have HS35 := hbk35 HP35.2 (fun k_ e_ => by injection e_ with e_; subst e_; exact ge35_0.1 _ rfl) (x' := y479) (Kd.M_row HP35.1)
                 rw [← Ny481.out] at HS35
                 have HQ35 := Aside0.mk HS35
                 clear HP35 HS35 hbk35 hok35
                 refine start_ (n := 9) (S := fun w' => w'.cell? ⟨gb466, 0, none⟩ = some (.slice A2_0 l2_0.length c2_0) ∧ w'.cell? ⟨gb466, 1, none⟩ = some (.int .i64 a2_1) ∧ w'.cell? ⟨gb466, 2, none⟩ = some (.int .i64 a2_2) ∧ w'.cell? ⟨gb466, 3, none⟩ = some (.int .i64 a2_3) ∧ w'.cell? ⟨gb466, 4, none⟩ = some (.int .i64 a2_4) ∧ w'.cell? ⟨gb466, 5, none⟩ = some (.int .i64 a2_5) ∧ w'.cell? (ad478.add (x9_2).toNat) = some (.slice (some ⟨go33, 0, none⟩) (rd_L1 x8_4 x9_2).length c478_0)) (ds := [8]) #[false, false, false, false, false, false, false, false, false] (by kernel_rfl) rfl rfl ⟨(blk_cell BK466.out 0).trans rfl, (blk_cell BK466.out 1).trans rfl, (blk_cell BK466.out 2).trans rfl, (blk_cell BK466.out 3).trans rfl, (blk_cell BK466.out 4).trans rfl, (blk_cell BK466.out 5).trans rfl, hx478_0⟩ (fun hHeld => ?_); refine with_tabW spec_PaintObject.tab14 spec_PaintObject.bits14 (fun HT_ HW_ => ?_)
                 generalize wr.drew = w34 at HO_8 HO_10 BK466 HB GG33 HL478_0 HQ35 HR478_0 HX478_0 hf33_0 hx33_0 hx478_0 hHeld ⊢
                 refine pU 0 (some 60) #[true, false, false, false, false, false, false, false, false] ?_
                 refine pU 1 (some 61) #[true, true, false, false, false, false, false, false, false] ?_
                 refine pU 2 (some 62) #[true, true, true, false, false, false, false, false, false] ?_
                 refine pU 4 (some 64) #[true, true, true, false, true, false, false, false, false] ?_
                 refine pU 5 (some 65) #[true, true, true, false, true, true, false, false, false] ?_
                 refine tK 3 (some 63) #[true, true, true, true, true, true, false, false, false] ?_
                 refine tK 6 (some 66) #[true, true, true, true, true, true, true, false, false] ?_
                 refine pU 7 (some 67) #[true, true, true, true, true, true, true, true, false] ?_
                 refine last_ (i := 8) (N := none) #[true, true, true, true, true, true, true, true, true] rfl rfl (one_of HT_.out (by kernel_rfl)) (by decide) (fun K hK => ?_)
                 refine skip_ (w1 := ?_) (by rfl) rfl ?_ ?_
                 rotate_left
                 ·go_simp
                  rfl
                 refine hK.out _ _ ?_
                 clear hK K
                 refine done_ (done_of HT_.out (by kernel_rfl)) ?_
                 try go_wp2
                 (try simp only [← hl8_4])
                 go_roundg k4
                 case measure => have := HJ4.out; have := HK2.out; have := HK3.out; have := HK4.out; omega
                 case rel => exact ⟨(y481), (wrap64 (x12_4 + 1)), fS, H', ⟨by have := HJ4.out; have := HK2.out; have := HK3.out; have := HK4.out; omega⟩, ⟨by (try simp only [hl8_3]); (try simp only [hl8_4]); (with_reducible repeat (first | apply Kd.S_alloc | apply Kd.S_drewN | apply Kd.S_drew)); exact HQ35.out⟩, ⟨by (try simp only [hl8_3]); (try simp only [hl8_4]); (with_reducible repeat (first | apply Kd.R_alloc | apply Kd.R_drewN | apply Kd.R_drew)); exact Kd.R_mono (Kd.R_far (p := ⟨go33, (x12_4 : Int).toNat, none⟩) (Kd.R_types HO_10.out GG33.out (by decide)) (fun _ hk => hk.2) (.int .i64 a2_1)) (fun _ hk => trivial)⟩, ⟨by (try simp only [hl8_3]); (try simp only [hl8_4]); (with_reducible repeat (first | refine blk_drewN ?_ _ | refine blk_drew ?_ | refine blk_alloc ?_ _)); refine blk_far ?_ (by have h_ := Kd.R_ne HL478_0.out BK466.out (by decide); intro e_; exact h_ (by rw [e_]; rfl)) _; (with_reducible repeat (first | refine blk_drewN ?_ _ | refine blk_drew ?_ | refine blk_alloc ?_ _)); exact BK466.out⟩, ⟨by repeat (first | (with_reducible first | exact HB.out | apply below_alloc | apply pw_below_drewN | apply below_drew1 | refine below_set ?_ GB33.out | refine below_set ?_ GE466.out) | exact HB.out)⟩⟩
                ·rw [if_neg c32] at H
                 exact absurd H (by simp)
               ·rw [if_neg c30] at H
                exact absurd H (by simp)
              ·have H' := Aside0.mk H
               clear H
               have p477 : 0 ≤ (x11_3 : Int) := dA
               have q477 : x11_3 < (t473.length : Int) := dA
               obtain ⟨ad477, e477, hx477_0, hx477_1⟩ := at_T124 (Kd.R_reads' HO_10.out).2.2 x11_3 p477 q477
               obtain rfl : ad476 = ad477 := (by injection e477)
               replace p477 := eq_true p477
               replace q477 := eq_true q477
               go_wp2
               (try simp only [← hl8_3, ← hl8_4])
               go_roundg k4
               case measure => have := HJ4.out; have := HK2.out; have := HK3.out; have := HK4.out; omega
               case rel => exact ⟨(x8_4), (wrap64 (x11_3 + 1)), fS, H', ⟨by have := HJ4.out; have := HK2.out; have := HK3.out; have := HK4.out; omega⟩, ⟨by (try simp only [hl8_3]); (try simp only [hl8_4]); (with_reducible repeat (first | apply Kd.S_alloc | apply Kd.S_drewN | apply Kd.S_drew)); exact HO_8.out⟩, ⟨by (try simp only [hl8_3]); (try simp only [hl8_4]); (with_reducible repeat (first | apply Kd.R_alloc | apply Kd.R_drewN | apply Kd.R_drew)); exact HO_10.out⟩, ⟨by (try simp only [hl8_3]); (try simp only [hl8_4]); (with_reducible repeat (first | refine blk_drewN ?_ _ | refine blk_drew ?_ | refine blk_alloc ?_ _)); exact BK466.out⟩, ⟨bS⟩⟩
             ·rw [if_neg c27] at H
              exact absurd H (by simp)
          ·rw [if_neg c24] at H
           exact absurd H (by simp)
         ·rw [if_neg c23] at H
          have c23b0 : decide (x11_3 < (t473.length : Int)) = false := decide_eq_false c23
          (try (have c23b0_ := c23b0; simp only [hl8_3] at c23b0_))
          clear c23
          have H' := Aside0.mk H
          clear H
          obtain ⟨Ao37, co37, eo37⟩ := Kd.R_slice HO_10.out
          subst eo37
          go_wp2
          (try simp only [← hl8_3])
          go_roundg k3
          case measure => have := HJ4.out; have := HK2.out; have := HK3.out; omega
          case rel => exact ⟨(x8_3), (wrap64 (x9_2 + 1)), fS, H', ⟨by have := HJ4.out; have := HK2.out; have := HK3.out; omega⟩, ⟨by (try simp only [hl8_3]); (with_reducible repeat (first | apply Kd.S_alloc | apply Kd.S_drewN | apply Kd.S_drew)); exact HO_8.out⟩, ⟨by (try simp only [hl8_3]); (with_reducible repeat (first | refine blk_drewN ?_ _ | refine blk_drew ?_ | refine blk_alloc ?_ _)); exact BK466.out⟩, ⟨bS⟩⟩
      ·rw [if_neg c18] at H
       have c18b0 : decide (x9_2 < (x8_2.length : Int)) = false := decide_eq_false c18
       clear c18
       obtain ⟨rfl, rfl⟩ := sI2 H
       obtain ⟨Ao38, co38, eo38⟩ := Kd.S_slice HO_8.out
       subst eo38
       go_wp2
       go_ret2
       exact ⟨_, eS, sS HO_8, bS⟩

/-! ### spec_IsHeight: function 137 -/
def spec_IsHeight.f (a0 : Int) : Option (Bool) := if a0 = 1 then (some true) else (if a0 = 2 then (some true) else (if a0 = 4 then (some true) else (if a0 = 8 then (some true) else (if a0 = 16 then (some true) else (some (a0 == 32))))))
theorem spec_IsHeight.calls (a0 : Int) (r : Bool) (w : World) (h : spec_IsHeight.f a0 = some r) :
  Calls Try.prog 137 #[.int .i64 a0] w fun e w' => e = .returned (.bool r) ∧ Drawn0 w w' := by
 have H : (if a0 = 1 then (some true) else (if a0 = 2 then (some true) else (if a0 = 4 then (some true) else (if a0 = 8 then (some true) else (if a0 = 16 then (some true) else (some (a0 == 32))))))) = some r := h
 clear h
 by_cases c2 : a0 = 1
 ·rw [if_pos c2] at H
  have c2b0 : (a0 == 1) = true := beq_iff_eq.mpr c2
  have c2b1 : (a0 != 1) = false := bne_eq_false_iff_eq.mpr c2
  clear c2
  obtain rfl := Option.some.inj H
  go_enter Try.func137, Try.ntmps137
  go_wp2
  go_ret
  exact ⟨fS, dS⟩
 ·rw [if_neg c2] at H
  have c2b0 : (a0 == 1) = false := beq_eq_false_iff_ne.mpr c2
  have c2b1 : (a0 != 1) = true := bne_iff_ne.mpr c2
  by_cases c3 : a0 = 2
  ·rw [if_pos c3] at H
   have c3b0 : (a0 == 2) = true := beq_iff_eq.mpr c3
   have c3b1 : (a0 != 2) = false := bne_eq_false_iff_eq.mpr c3
   clear c3
   obtain rfl := Option.some.inj H
   go_enter Try.func137, Try.ntmps137
   go_wp2
   go_ret
   exact ⟨fS, dS⟩
  ·rw [if_neg c3] at H
   have c3b0 : (a0 == 2) = false := beq_eq_false_iff_ne.mpr c3
   have c3b1 : (a0 != 2) = true := bne_iff_ne.mpr c3
   by_cases c4 : a0 = 4
   ·rw [if_pos c4] at H
    have c4b0 : (a0 == 4) = true := beq_iff_eq.mpr c4
    have c4b1 : (a0 != 4) = false := bne_eq_false_iff_eq.mpr c4
    clear c4
    obtain rfl := Option.some.inj H
    go_enter Try.func137, Try.ntmps137
    go_wp2
    go_ret
    exact ⟨fS, dS⟩
   ·rw [if_neg c4] at H
    have c4b0 : (a0 == 4) = false := beq_eq_false_iff_ne.mpr c4
    have c4b1 : (a0 != 4) = true := bne_iff_ne.mpr c4
    by_cases c5 : a0 = 8
    ·rw [if_pos c5] at H
     have c5b0 : (a0 == 8) = true := beq_iff_eq.mpr c5
     have c5b1 : (a0 != 8) = false := bne_eq_false_iff_eq.mpr c5
     clear c5
     obtain rfl := Option.some.inj H
     go_enter Try.func137, Try.ntmps137
     go_wp2
     go_ret
     exact ⟨fS, dS⟩
    ·rw [if_neg c5] at H
     have c5b0 : (a0 == 8) = false := beq_eq_false_iff_ne.mpr c5
     have c5b1 : (a0 != 8) = true := bne_iff_ne.mpr c5
     by_cases c6 : a0 = 16
     ·rw [if_pos c6] at H
      have c6b0 : (a0 == 16) = true := beq_iff_eq.mpr c6
      have c6b1 : (a0 != 16) = false := bne_eq_false_iff_eq.mpr c6
      clear c6
      obtain rfl := Option.some.inj H
      go_enter Try.func137, Try.ntmps137
      go_wp2
      go_ret
      exact ⟨fS, dS⟩
     ·rw [if_neg c6] at H
      have c6b0 : (a0 == 16) = false := beq_eq_false_iff_ne.mpr c6
      have c6b1 : (a0 != 16) = true := bne_iff_ne.mpr c6
      obtain rfl := Option.some.inj H
      go_enter Try.func137, Try.ntmps137
      go_wp2
      go_ret
      exact ⟨fS, dS⟩

/-! ### spec_CountBands: function 67 -/
def spec_CountBands.f (a0 : Int) : Option (Int) := (spec_IsHeight.f a0).bind fun t482 => (if t482 = true then (if a0 = 0 then (none) else (some (wrap64 ((32 : Int) / a0)))) else (some 0))
theorem spec_CountBands.calls (a0 : Int) (r : Int) (w : World) (h : spec_CountBands.f a0 = some r) :
  Calls Try.prog 67 #[.int .i64 a0] w fun e w' => e = .returned (.int .i64 r) ∧ Drawn0 w w' := by
 have H : ((spec_IsHeight.f a0).bind fun t482 => (if t482 = true then (if a0 = 0 then (none) else (some (wrap64 ((32 : Int) / a0)))) else (some 0))) = some r := h
 clear h
 replace H := bN H
 obtain ⟨t482, A2, H⟩ := H
 by_cases c3 : t482 = true
 ·subst c3
  rw [if_pos rfl] at H
  by_cases c4 : a0 = 0
  ·rw [if_pos c4] at H
   exact absurd H (by simp)
  ·rw [if_neg c4] at H
   have c4b0 : (a0 == 0) = false := beq_eq_false_iff_ne.mpr c4
   have c4b1 : (a0 != 0) = true := bne_iff_ne.mpr c4
   obtain rfl := Option.some.inj H
   go_enter Try.func67, Try.ntmps67
   go_wp2_with (first | ((with_reducible refine gC 137 ?_); refine cL (some 4) Try.func137 #[.int .i64 a0] ?_; (with_reducible refine (spec_IsHeight.calls a0 _ _ A2.out).mono ?_); rintro e w' ⟨rfl, ⟨nd, rfl⟩⟩; refine ⟨_, rfl, ?_⟩))
   go_ret
   exact ⟨by first | rfl | (simp; done) | (simp [*]; done) | (simp [*, Int.tdiv_eq_ediv_of_nonneg]; done), dS⟩
 ·obtain rfl := Bool.eq_false_iff.mpr c3
  rw [if_neg nF] at H
  obtain rfl := Option.some.inj H
  go_enter Try.func67, Try.ntmps67
  go_wp2_with (first | ((with_reducible refine gC 137 ?_); refine cL (some 4) Try.func137 #[.int .i64 a0] ?_; (with_reducible refine (spec_IsHeight.calls a0 _ _ A2.out).mono ?_); rintro e w' ⟨rfl, ⟨nd, rfl⟩⟩; refine ⟨_, rfl, ?_⟩))
  go_ret
  exact ⟨by first | rfl | (simp; done) | (simp [*]; done) | (simp [*, Int.tdiv_eq_ediv_of_nonneg]; done), dS⟩

/-! ### spec_l12Ok: function 96 -/
def spec_l12Ok.f (a0 : Int) (a1 : Int) : Option (Bool) := (spec_CountBands.f a0).bind fun t483 => ((spec_l01In.f a1 0 (wrap64 (t483 - 1))).bind fun t484 => (some t484))
theorem spec_l12Ok.calls (a0 : Int) (a1 : Int) (r : Bool) (w : World) (h : spec_l12Ok.f a0 a1 = some r) :
  Calls Try.prog 96 #[.int .i64 a0, .int .i64 a1] w fun e w' => e = .returned (.bool r) ∧ Drawn0 w w' := by
 have H : ((spec_CountBands.f a0).bind fun t483 => ((spec_l01In.f a1 0 (wrap64 (t483 - 1))).bind fun t484 => (some t484))) = some r := h
 clear h
 replace H := bN H
 obtain ⟨t483, A3, H⟩ := H
 replace H := bN H
 obtain ⟨t484, A4, H⟩ := H
 obtain rfl := Option.some.inj H
 go_enter Try.func96, Try.ntmps96
 go_wp2_with (first | ((with_reducible refine gC 67 ?_); refine cL (some 7) Try.func67 #[.int .i64 a0] ?_; (with_reducible refine (spec_CountBands.calls a0 t483 _ A3.out).mono ?_); rintro e w' ⟨rfl, ⟨nd, rfl⟩⟩; refine ⟨_, rfl, ?_⟩) | ((with_reducible refine gC 123 ?_); refine cL (some 9) Try.func123 #[.int .i64 a1, .int .i64 0, .int .i64 (wrap64 (t483 - 1))] ?_; (with_reducible refine (spec_l01In.calls a1 0 (wrap64 (t483 - 1)) t484 _ A4.out).mono ?_); rintro e w' ⟨rfl, ⟨nd, rfl⟩⟩; refine ⟨_, rfl, ?_⟩))
 go_ret
 exact ⟨fS, dS⟩

end Go.Proofs.Ytigodjcnkgebaaa.QFnExactRenderBands
