-- Made out of the translation by a program of this session (a changed copy of the print). Not trusted: Lean checks it.
import Derived.Test.YtimpejidlnjhlaaQFnExactPageOkx0
import Derived.Test.YtimpejidlnjhlaaQFnExactPageOkx5
namespace Go.Proofs.Ytimpejidlnjhlaa.QFnExactPageOk
open Go.RowKit Go.Proofs.YtimpejidlnjhlaaW.PrintWords Go.Proofs.YtimpejidlnjhlaaW.PrintLast Go.Proofs.YtimpejidlnjhlaaW.PrintMore
attribute [local go_sem] max2_int min2_int max_two min_two max_three min_three max_four min_four   -- for this text's walks alone
set_option linter.unusedVariables false
set_option linter.unusedSimpArgs false
set_option maxHeartbeats 8000000
set_option maxRecDepth 100000

/-! ### impl_PageOk: function 78 -/
mutual
def impl_PageOk.j0 : Nat → Bool → List Int → Int → Int → Int → Int → List (S166) → Int → Int → Int → Int → Int → List (S107) → List (S41) → Option (Bool)
 | 0, _, _, _, _, _, _, _, _, _, _, _, _, _, _ => none
 | k + 1, x22, x284000, x284001, x284002, x284003, x284004, x284005, x284006, x284007, x284008, x284009, x284010, x284011, x284012 => if x22 = true then (some false) else (impl_PageOk.l0 k x284011 (x284011.length : Int) 0 x284000 x284001 x284002 x284003 x284004 x284005 x284006 x284007 x284008 x284009 x284010 x284011 x284012)
def impl_PageOk.l0 : Nat → List (S107) → Int → Int → List Int → Int → Int → Int → Int → List (S166) → Int → Int → Int → Int → Int → List (S107) → List (S41) → Option (Bool)
 | 0, _, _, _, _, _, _, _, _, _, _, _, _, _, _, _, _ => none
 | k + 1, x24, x25, x26, x284000, x284001, x284002, x284003, x284004, x284005, x284006, x284007, x284008, x284009, x284010, x284011, x284012 => if x26 < x25 then (if 0 ≤ x26 then (if x26 < (x24.length : Int) then ((impl_GraphicsOk.f k ((rd_T107 x24 x26).f0) ((rd_T107 x24 x26).f1.f0) ((rd_T107 x24 x26).f1.f1) ((rd_T107 x24 x26).f1.f2) ((rd_T107 x24 x26).f1.f3) ((rd_T107 x24 x26).f2) ((rd_T107 x24 x26).f3) ((rd_T107 x24 x26).f4.f0) ((rd_T107 x24 x26).f4.f1) ((rd_T107 x24 x26).f4.f2) ((rd_T107 x24 x26).f4.f3)).bind fun t287 => (if t287 = true then (impl_PageOk.l0 k x24 x25 (wrap64 (x26 + 1)) x284000 x284001 x284002 x284003 x284004 x284005 x284006 x284007 x284008 x284009 x284010 x284011 x284012) else (some false))) else (none)) else (none)) else (impl_PageOk.l1 k x284012 (x284012.length : Int) 0)
def impl_PageOk.l1 : Nat → List (S41) → Int → Int → Option (Bool)
 | 0, _, _, _ => none
 | k + 1, x35, x36, x37 => if x37 < x36 then (if 0 ≤ x37 then (if x37 < (x35.length : Int) then ((impl_ObjectOk.f k ((rd_T41 x35 x37).f0) ((rd_T41 x35 x37).f1) ((rd_T41 x35 x37).f2.f0) ((rd_T41 x35 x37).f2.f1) ((rd_T41 x35 x37).f2.f2) ((rd_T41 x35 x37).f2.f3)).bind fun t290 => (if t290 = true then (impl_PageOk.l1 k x35 x36 (wrap64 (x37 + 1))) else (some false))) else (none)) else (none)) else (some true)
end
def impl_PageOk.f (k : Nat) (l0_0 : List Int) (a0_1 : Int) (a0_2 : Int) (a0_3 : Int) (a0_4 : Int) (l0_5 : List (S166)) (a0_6 : Int) (a0_7 : Int) (a0_8 : Int) (a0_9 : Int) (a0_10 : Int) (l0_11 : List (S107)) (l0_12 : List (S41)) : Option (Bool) := (impl_GraphicsOk.f k l0_0 a0_1 a0_2 a0_3 a0_4 l0_5 a0_6 a0_7 a0_8 a0_9 a0_10).bind fun t284 => (if t284 = true then (if (l0_11.length : Int) > 4 then (impl_PageOk.j0 k true l0_0 a0_1 a0_2 a0_3 a0_4 l0_5 a0_6 a0_7 a0_8 a0_9 a0_10 l0_11 l0_12) else (impl_PageOk.j0 k (decide ((l0_12.length : Int) > 12)) l0_0 a0_1 a0_2 a0_3 a0_4 l0_5 a0_6 a0_7 a0_8 a0_9 a0_10 l0_11 l0_12)) else (impl_PageOk.j0 k true l0_0 a0_1 a0_2 a0_3 a0_4 l0_5 a0_6 a0_7 a0_8 a0_9 a0_10 l0_11 l0_12))
theorem impl_PageOk.calls (k : Nat) (A0_0 : Option Addr) (c0_0 : Nat) (l0_0 : List Int) (a0_1 : Int) (a0_2 : Int) (a0_3 : Int) (a0_4 : Int) (A0_5 : Option Addr) (c0_5 : Nat) (l0_5 : List (S166)) (a0_6 : Int) (a0_7 : Int) (a0_8 : Int) (a0_9 : Int) (a0_10 : Int) (A0_11 : Option Addr) (c0_11 : Nat) (l0_11 : List (S107)) (A0_12 : Option Addr) (c0_12 : Nat) (l0_12 : List (S41)) (r : Bool) (w : World) (hr0_0 : Kd.C (Kd.int .i64) w A0_0 l0_0.length l0_0) (hc0_0 : l0_0.length ≤ c0_0) (hr0_5 : Kd.C k166 w A0_5 l0_5.length l0_5) (hc0_5 : l0_5.length ≤ c0_5) (hr0_11 : Kd.C k107 w A0_11 l0_11.length l0_11) (hc0_11 : l0_11.length ≤ c0_11) (hr0_12 : Kd.C k41 w A0_12 l0_12.length l0_12) (hc0_12 : l0_12.length ≤ c0_12) (h : impl_PageOk.f k l0_0 a0_1 a0_2 a0_3 a0_4 l0_5 a0_6 a0_7 a0_8 a0_9 a0_10 l0_11 l0_12 = some r) :
  Calls Try.prog 78 #[.agg #[.slice A0_0 l0_0.length c0_0, .int .i64 a0_1, .int .i64 a0_2, .int .i64 a0_3, .int .i64 a0_4, .slice A0_5 l0_5.length c0_5, .int .i64 a0_6, .int .i64 a0_7, .int .i64 a0_8, .int .i64 a0_9, .int .i64 a0_10, .slice A0_11 l0_11.length c0_11, .slice A0_12 l0_12.length c0_12]] w fun e w' => e = .returned (.bool r) ∧ Below w.heap.size w w' := by
 have hu110 := Try.underlying110
 have hu107 := Try.underlying107
 have hu41 := Try.underlying41
 have HR0_0 := Aside0.mk hr0_0
 have HC0_0 := Aside0.mk hc0_0
 clear hr0_0 hc0_0
 have HR0_5 := Aside0.mk hr0_5
 have HC0_5 := Aside0.mk hc0_5
 clear hr0_5 hc0_5
 have HR0_11 := Aside0.mk hr0_11
 have HC0_11 := Aside0.mk hc0_11
 clear hr0_11 hc0_11
 have HR0_12 := Aside0.mk hr0_12
 have HC0_12 := Aside0.mk hc0_12
 clear hr0_12 hc0_12
 have HB := Aside0.mk (Below.refl w.heap.size w)
 have H : ((impl_GraphicsOk.f k l0_0 a0_1 a0_2 a0_3 a0_4 l0_5 a0_6 a0_7 a0_8 a0_9 a0_10).bind fun t284 => (if t284 = true then (if (l0_11.length : Int) > 4 then (impl_PageOk.j0 k true l0_0 a0_1 a0_2 a0_3 a0_4 l0_5 a0_6 a0_7 a0_8 a0_9 a0_10 l0_11 l0_12) else (impl_PageOk.j0 k (decide ((l0_12.length : Int) > 12)) l0_0 a0_1 a0_2 a0_3 a0_4 l0_5 a0_6 a0_7 a0_8 a0_9 a0_10 l0_11 l0_12)) else (impl_PageOk.j0 k true l0_0 a0_1 a0_2 a0_3 a0_4 l0_5 a0_6 a0_7 a0_8 a0_9 a0_10 l0_11 l0_12))) = some r := h
 clear h
 have HC2 := Aside0.mk H
 clear H
 go_enter Try.func78, Try.ntmps78
 go_upto_region 1 with (first | ((with_reducible refine gD 1 ?_); refine bxE #[.slice A0_0 l0_0.length c0_0, .int .i64 a0_1, .int .i64 a0_2, .int .i64 a0_3, .int .i64 a0_4, .slice A0_5 l0_5.length c0_5, .int .i64 a0_6, .int .i64 a0_7, .int .i64 a0_8, .int .i64 a0_9, .int .i64 a0_10, .slice A0_11 l0_11.length c0_11, .slice A0_12 l0_12.length c0_12] 110 ?_; intro gb283 hg w3 BK283 hb; have GW283 := gE hg; have GE283 := gE hg; replace HB := hB hb; clear hb hg))
 (try simp only [Act.put, List.setIfInBounds_toArray, List.set_cons_zero, List.set_cons_succ])
 go_cut [22] (fun v22 wc => ∃ (kq : Nat) (x22_1 : Bool), v22 = .bool x22_1 ∧ Aside0 (impl_PageOk.j0 kq x22_1 l0_0 a0_1 a0_2 a0_3 a0_4 l0_5 a0_6 a0_7 a0_8 a0_9 a0_10 l0_11 l0_12 = some r) ∧ Aside0 (kq ≤ k) ∧ Aside0 (wc.heap[gb283]? = some (.cells #[(.slice A0_0 l0_0.length c0_0), .int .i64 a0_1, .int .i64 a0_2, .int .i64 a0_3, .int .i64 a0_4, (.slice A0_5 l0_5.length c0_5), .int .i64 a0_6, .int .i64 a0_7, .int .i64 a0_8, .int .i64 a0_9, .int .i64 a0_10, (.slice A0_11 l0_11.length c0_11), (.slice A0_12 l0_12.length c0_12)] 110 (0, 0))) ∧ Aside0 (Below w.heap.size w wc))
 case first =>
  have H := HC2.out
  clear HC2
  replace H := bN H
  obtain ⟨t284, A4, H⟩ := H
  by_cases c5 : t284 = true
  ·subst c5
   rw [if_pos rfl] at H
   by_cases c6 : (l0_11.length : Int) > 4
   ·rw [if_pos c6] at H
    have c6b0 : decide (4 < (l0_11.length : Int)) = true := decide_eq_true c6
    have c6b1 : decide (4 < l0_11.length) = true := decide_eq_true (by omega)
    clear c6
    (first | rw [c6b0] | (simp only [i64_w, i32_w]; rw [c6b0]) | skip)
    have H' := Aside0.mk H
    clear H
    have hcz7_0 : w3.cell? ⟨gb283, 0, none⟩ = some (.slice A0_0 l0_0.length c0_0) := (blk_cell BK283.out 0).trans rfl
    have hcz7_1 : w3.cell? ⟨gb283, 1, none⟩ = some (.int .i64 a0_1) := (blk_cell BK283.out 1).trans rfl
    have hcz7_2 : w3.cell? ⟨gb283, 2, none⟩ = some (.int .i64 a0_2) := (blk_cell BK283.out 2).trans rfl
    have hcz7_3 : w3.cell? ⟨gb283, 3, none⟩ = some (.int .i64 a0_3) := (blk_cell BK283.out 3).trans rfl
    have hcz7_4 : w3.cell? ⟨gb283, 4, none⟩ = some (.int .i64 a0_4) := (blk_cell BK283.out 4).trans rfl
    have hcz7_5 : w3.cell? ⟨gb283, 5, none⟩ = some (.slice A0_5 l0_5.length c0_5) := (blk_cell BK283.out 5).trans rfl
    have hcz7_6 : w3.cell? ⟨gb283, 6, none⟩ = some (.int .i64 a0_6) := (blk_cell BK283.out 6).trans rfl
    have hcz7_7 : w3.cell? ⟨gb283, 7, none⟩ = some (.int .i64 a0_7) := (blk_cell BK283.out 7).trans rfl
    have hcz7_8 : w3.cell? ⟨gb283, 8, none⟩ = some (.int .i64 a0_8) := (blk_cell BK283.out 8).trans rfl
    have hcz7_9 : w3.cell? ⟨gb283, 9, none⟩ = some (.int .i64 a0_9) := (blk_cell BK283.out 9).trans rfl
    have hcz7_10 : w3.cell? ⟨gb283, 10, none⟩ = some (.int .i64 a0_10) := (blk_cell BK283.out 10).trans rfl
    have hcz7_11 : w3.cell? ⟨gb283, 11, none⟩ = some (.slice A0_11 l0_11.length c0_11) := (blk_cell BK283.out 11).trans rfl
    have hcz7_12 : w3.cell? ⟨gb283, 12, none⟩ = some (.slice A0_12 l0_12.length c0_12) := (blk_cell BK283.out 12).trans rfl
    have hfz7_0 := blk_frozen BK283.out 0
    have hfz7_1 := blk_frozen BK283.out 1
    have hfz7_2 := blk_frozen BK283.out 2
    have hfz7_3 := blk_frozen BK283.out 3
    have hfz7_4 := blk_frozen BK283.out 4
    have hfz7_5 := blk_frozen BK283.out 5
    have hfz7_6 := blk_frozen BK283.out 6
    have hfz7_7 := blk_frozen BK283.out 7
    have hfz7_8 := blk_frozen BK283.out 8
    have hfz7_9 := blk_frozen BK283.out 9
    have hfz7_10 := blk_frozen BK283.out 10
    have hfz7_11 := blk_frozen BK283.out 11
    have hfz7_12 := blk_frozen BK283.out 12
    go_wp2_with (first | ((with_reducible refine gC 135 ?_); refine cL (some 9) Try.func135 #[.agg #[.slice A0_0 l0_0.length c0_0, .int .i64 a0_1, .int .i64 a0_2, .int .i64 a0_3, .int .i64 a0_4, .slice A0_5 l0_5.length c0_5, .int .i64 a0_6, .int .i64 a0_7, .int .i64 a0_8, .int .i64 a0_9, .int .i64 a0_10]] ?_; (with_reducible refine (impl_GraphicsOk.calls k _ _ l0_0 a0_1 a0_2 a0_3 a0_4 _ _ l0_5 a0_6 a0_7 a0_8 a0_9 a0_10 _ _ (cS (Kd.C_below HR0_0.out HB.out)) HC0_0.out (cS (Kd.C_below HR0_5.out HB.out)) HC0_5.out A4.out).mono ?_); rintro e w8 ⟨rfl, hb⟩; refine ⟨_, rfl, ?_⟩; replace BK283 := kB (g := gb283) hb; replace HB := hB hb; (try clear hb); (try clear hb2); (try clear hk); (try clear hi); have hcz9_0 : w8.cell? ⟨gb283, 0, none⟩ = some (.slice A0_0 l0_0.length c0_0) := (blk_cell BK283.out 0).trans rfl; have hcz9_1 : w8.cell? ⟨gb283, 1, none⟩ = some (.int .i64 a0_1) := (blk_cell BK283.out 1).trans rfl; have hcz9_2 : w8.cell? ⟨gb283, 2, none⟩ = some (.int .i64 a0_2) := (blk_cell BK283.out 2).trans rfl; have hcz9_3 : w8.cell? ⟨gb283, 3, none⟩ = some (.int .i64 a0_3) := (blk_cell BK283.out 3).trans rfl; have hcz9_4 : w8.cell? ⟨gb283, 4, none⟩ = some (.int .i64 a0_4) := (blk_cell BK283.out 4).trans rfl; have hcz9_5 : w8.cell? ⟨gb283, 5, none⟩ = some (.slice A0_5 l0_5.length c0_5) := (blk_cell BK283.out 5).trans rfl; have hcz9_6 : w8.cell? ⟨gb283, 6, none⟩ = some (.int .i64 a0_6) := (blk_cell BK283.out 6).trans rfl; have hcz9_7 : w8.cell? ⟨gb283, 7, none⟩ = some (.int .i64 a0_7) := (blk_cell BK283.out 7).trans rfl; have hcz9_8 : w8.cell? ⟨gb283, 8, none⟩ = some (.int .i64 a0_8) := (blk_cell BK283.out 8).trans rfl; have hcz9_9 : w8.cell? ⟨gb283, 9, none⟩ = some (.int .i64 a0_9) := (blk_cell BK283.out 9).trans rfl; have hcz9_10 : w8.cell? ⟨gb283, 10, none⟩ = some (.int .i64 a0_10) := (blk_cell BK283.out 10).trans rfl; have hcz9_11 : w8.cell? ⟨gb283, 11, none⟩ = some (.slice A0_11 l0_11.length c0_11) := (blk_cell BK283.out 11).trans rfl; have hcz9_12 : w8.cell? ⟨gb283, 12, none⟩ = some (.slice A0_12 l0_12.length c0_12) := (blk_cell BK283.out 12).trans rfl; have hfz9_0 := blk_frozen BK283.out 0; have hfz9_1 := blk_frozen BK283.out 1; have hfz9_2 := blk_frozen BK283.out 2; have hfz9_3 := blk_frozen BK283.out 3; have hfz9_4 := blk_frozen BK283.out 4; have hfz9_5 := blk_frozen BK283.out 5; have hfz9_6 := blk_frozen BK283.out 6; have hfz9_7 := blk_frozen BK283.out 7; have hfz9_8 := blk_frozen BK283.out 8; have hfz9_9 := blk_frozen BK283.out 9; have hfz9_10 := blk_frozen BK283.out 10; have hfz9_11 := blk_frozen BK283.out 11; have hfz9_12 := blk_frozen BK283.out 12))
    go_meet
    case rel => exact ⟨_, (true), fS, H', ⟨by first | omega | exact Nat.le_refl _⟩, ⟨kS⟩, ⟨bS⟩⟩
   ·rw [if_neg c6] at H
    have c6b0 : decide (4 < (l0_11.length : Int)) = false := decide_eq_false c6
    have c6b1 : decide (4 < l0_11.length) = false := decide_eq_false (by omega)
    clear c6
    (first | rw [c6b0] | (simp only [i64_w, i32_w]; rw [c6b0]) | skip)
    have H' := Aside0.mk H
    clear H
    have hcz10_0 : w3.cell? ⟨gb283, 0, none⟩ = some (.slice A0_0 l0_0.length c0_0) := (blk_cell BK283.out 0).trans rfl
    have hcz10_1 : w3.cell? ⟨gb283, 1, none⟩ = some (.int .i64 a0_1) := (blk_cell BK283.out 1).trans rfl
    have hcz10_2 : w3.cell? ⟨gb283, 2, none⟩ = some (.int .i64 a0_2) := (blk_cell BK283.out 2).trans rfl
    have hcz10_3 : w3.cell? ⟨gb283, 3, none⟩ = some (.int .i64 a0_3) := (blk_cell BK283.out 3).trans rfl
    have hcz10_4 : w3.cell? ⟨gb283, 4, none⟩ = some (.int .i64 a0_4) := (blk_cell BK283.out 4).trans rfl
    have hcz10_5 : w3.cell? ⟨gb283, 5, none⟩ = some (.slice A0_5 l0_5.length c0_5) := (blk_cell BK283.out 5).trans rfl
    have hcz10_6 : w3.cell? ⟨gb283, 6, none⟩ = some (.int .i64 a0_6) := (blk_cell BK283.out 6).trans rfl
    have hcz10_7 : w3.cell? ⟨gb283, 7, none⟩ = some (.int .i64 a0_7) := (blk_cell BK283.out 7).trans rfl
    have hcz10_8 : w3.cell? ⟨gb283, 8, none⟩ = some (.int .i64 a0_8) := (blk_cell BK283.out 8).trans rfl
    have hcz10_9 : w3.cell? ⟨gb283, 9, none⟩ = some (.int .i64 a0_9) := (blk_cell BK283.out 9).trans rfl
    have hcz10_10 : w3.cell? ⟨gb283, 10, none⟩ = some (.int .i64 a0_10) := (blk_cell BK283.out 10).trans rfl
    have hcz10_11 : w3.cell? ⟨gb283, 11, none⟩ = some (.slice A0_11 l0_11.length c0_11) := (blk_cell BK283.out 11).trans rfl
    have hcz10_12 : w3.cell? ⟨gb283, 12, none⟩ = some (.slice A0_12 l0_12.length c0_12) := (blk_cell BK283.out 12).trans rfl
    have hfz10_0 := blk_frozen BK283.out 0
    have hfz10_1 := blk_frozen BK283.out 1
    have hfz10_2 := blk_frozen BK283.out 2
    have hfz10_3 := blk_frozen BK283.out 3
    have hfz10_4 := blk_frozen BK283.out 4
    have hfz10_5 := blk_frozen BK283.out 5
    have hfz10_6 := blk_frozen BK283.out 6
    have hfz10_7 := blk_frozen BK283.out 7
    have hfz10_8 := blk_frozen BK283.out 8
    have hfz10_9 := blk_frozen BK283.out 9
    have hfz10_10 := blk_frozen BK283.out 10
    have hfz10_11 := blk_frozen BK283.out 11
    have hfz10_12 := blk_frozen BK283.out 12
    go_wp2_with (first | ((with_reducible refine gC 135 ?_); refine cL (some 9) Try.func135 #[.agg #[.slice A0_0 l0_0.length c0_0, .int .i64 a0_1, .int .i64 a0_2, .int .i64 a0_3, .int .i64 a0_4, .slice A0_5 l0_5.length c0_5, .int .i64 a0_6, .int .i64 a0_7, .int .i64 a0_8, .int .i64 a0_9, .int .i64 a0_10]] ?_; (with_reducible refine (impl_GraphicsOk.calls k _ _ l0_0 a0_1 a0_2 a0_3 a0_4 _ _ l0_5 a0_6 a0_7 a0_8 a0_9 a0_10 _ _ (cS (Kd.C_below HR0_0.out HB.out)) HC0_0.out (cS (Kd.C_below HR0_5.out HB.out)) HC0_5.out A4.out).mono ?_); rintro e w11 ⟨rfl, hb⟩; refine ⟨_, rfl, ?_⟩; replace BK283 := kB (g := gb283) hb; replace HB := hB hb; (try clear hb); (try clear hb2); (try clear hk); (try clear hi); have hcz12_0 : w11.cell? ⟨gb283, 0, none⟩ = some (.slice A0_0 l0_0.length c0_0) := (blk_cell BK283.out 0).trans rfl; have hcz12_1 : w11.cell? ⟨gb283, 1, none⟩ = some (.int .i64 a0_1) := (blk_cell BK283.out 1).trans rfl; have hcz12_2 : w11.cell? ⟨gb283, 2, none⟩ = some (.int .i64 a0_2) := (blk_cell BK283.out 2).trans rfl; have hcz12_3 : w11.cell? ⟨gb283, 3, none⟩ = some (.int .i64 a0_3) := (blk_cell BK283.out 3).trans rfl; have hcz12_4 : w11.cell? ⟨gb283, 4, none⟩ = some (.int .i64 a0_4) := (blk_cell BK283.out 4).trans rfl; have hcz12_5 : w11.cell? ⟨gb283, 5, none⟩ = some (.slice A0_5 l0_5.length c0_5) := (blk_cell BK283.out 5).trans rfl; have hcz12_6 : w11.cell? ⟨gb283, 6, none⟩ = some (.int .i64 a0_6) := (blk_cell BK283.out 6).trans rfl; have hcz12_7 : w11.cell? ⟨gb283, 7, none⟩ = some (.int .i64 a0_7) := (blk_cell BK283.out 7).trans rfl; have hcz12_8 : w11.cell? ⟨gb283, 8, none⟩ = some (.int .i64 a0_8) := (blk_cell BK283.out 8).trans rfl; have hcz12_9 : w11.cell? ⟨gb283, 9, none⟩ = some (.int .i64 a0_9) := (blk_cell BK283.out 9).trans rfl; have hcz12_10 : w11.cell? ⟨gb283, 10, none⟩ = some (.int .i64 a0_10) := (blk_cell BK283.out 10).trans rfl; have hcz12_11 : w11.cell? ⟨gb283, 11, none⟩ = some (.slice A0_11 l0_11.length c0_11) := (blk_cell BK283.out 11).trans rfl; have hcz12_12 : w11.cell? ⟨gb283, 12, none⟩ = some (.slice A0_12 l0_12.length c0_12) := (blk_cell BK283.out 12).trans rfl; have hfz12_0 := blk_frozen BK283.out 0; have hfz12_1 := blk_frozen BK283.out 1; have hfz12_2 := blk_frozen BK283.out 2; have hfz12_3 := blk_frozen BK283.out 3; have hfz12_4 := blk_frozen BK283.out 4; have hfz12_5 := blk_frozen BK283.out 5; have hfz12_6 := blk_frozen BK283.out 6; have hfz12_7 := blk_frozen BK283.out 7; have hfz12_8 := blk_frozen BK283.out 8; have hfz12_9 := blk_frozen BK283.out 9; have hfz12_10 := blk_frozen BK283.out 10; have hfz12_11 := blk_frozen BK283.out 11; have hfz12_12 := blk_frozen BK283.out 12))
    go_meet
    case rel => exact ⟨_, (decide ((l0_12.length : Int) > 12)), fS, H', ⟨by first | omega | exact Nat.le_refl _⟩, ⟨kS⟩, ⟨bS⟩⟩
  ·obtain rfl := Bool.eq_false_iff.mpr c5
   rw [if_neg nF] at H
   have H' := Aside0.mk H
   clear H
   have hcz13_0 : w3.cell? ⟨gb283, 0, none⟩ = some (.slice A0_0 l0_0.length c0_0) := (blk_cell BK283.out 0).trans rfl
   have hcz13_1 : w3.cell? ⟨gb283, 1, none⟩ = some (.int .i64 a0_1) := (blk_cell BK283.out 1).trans rfl
   have hcz13_2 : w3.cell? ⟨gb283, 2, none⟩ = some (.int .i64 a0_2) := (blk_cell BK283.out 2).trans rfl
   have hcz13_3 : w3.cell? ⟨gb283, 3, none⟩ = some (.int .i64 a0_3) := (blk_cell BK283.out 3).trans rfl
   have hcz13_4 : w3.cell? ⟨gb283, 4, none⟩ = some (.int .i64 a0_4) := (blk_cell BK283.out 4).trans rfl
   have hcz13_5 : w3.cell? ⟨gb283, 5, none⟩ = some (.slice A0_5 l0_5.length c0_5) := (blk_cell BK283.out 5).trans rfl
   have hcz13_6 : w3.cell? ⟨gb283, 6, none⟩ = some (.int .i64 a0_6) := (blk_cell BK283.out 6).trans rfl
   have hcz13_7 : w3.cell? ⟨gb283, 7, none⟩ = some (.int .i64 a0_7) := (blk_cell BK283.out 7).trans rfl
   have hcz13_8 : w3.cell? ⟨gb283, 8, none⟩ = some (.int .i64 a0_8) := (blk_cell BK283.out 8).trans rfl
   have hcz13_9 : w3.cell? ⟨gb283, 9, none⟩ = some (.int .i64 a0_9) := (blk_cell BK283.out 9).trans rfl
   have hcz13_10 : w3.cell? ⟨gb283, 10, none⟩ = some (.int .i64 a0_10) := (blk_cell BK283.out 10).trans rfl
   have hcz13_11 : w3.cell? ⟨gb283, 11, none⟩ = some (.slice A0_11 l0_11.length c0_11) := (blk_cell BK283.out 11).trans rfl
   have hcz13_12 : w3.cell? ⟨gb283, 12, none⟩ = some (.slice A0_12 l0_12.length c0_12) := (blk_cell BK283.out 12).trans rfl
   have hfz13_0 := blk_frozen BK283.out 0
   have hfz13_1 := blk_frozen BK283.out 1
   have hfz13_2 := blk_frozen BK283.out 2
   have hfz13_3 := blk_frozen BK283.out 3
   have hfz13_4 := blk_frozen BK283.out 4
   have hfz13_5 := blk_frozen BK283.out 5
   have hfz13_6 := blk_frozen BK283.out 6
   have hfz13_7 := blk_frozen BK283.out 7
   have hfz13_8 := blk_frozen BK283.out 8
   have hfz13_9 := blk_frozen BK283.out 9
   have hfz13_10 := blk_frozen BK283.out 10
   have hfz13_11 := blk_frozen BK283.out 11
   have hfz13_12 := blk_frozen BK283.out 12
   go_wp2_with (first | ((with_reducible refine gC 135 ?_); refine cL (some 9) Try.func135 #[.agg #[.slice A0_0 l0_0.length c0_0, .int .i64 a0_1, .int .i64 a0_2, .int .i64 a0_3, .int .i64 a0_4, .slice A0_5 l0_5.length c0_5, .int .i64 a0_6, .int .i64 a0_7, .int .i64 a0_8, .int .i64 a0_9, .int .i64 a0_10]] ?_; (with_reducible refine (impl_GraphicsOk.calls k _ _ l0_0 a0_1 a0_2 a0_3 a0_4 _ _ l0_5 a0_6 a0_7 a0_8 a0_9 a0_10 _ _ (cS (Kd.C_below HR0_0.out HB.out)) HC0_0.out (cS (Kd.C_below HR0_5.out HB.out)) HC0_5.out A4.out).mono ?_); rintro e w14 ⟨rfl, hb⟩; refine ⟨_, rfl, ?_⟩; replace BK283 := kB (g := gb283) hb; replace HB := hB hb; (try clear hb); (try clear hb2); (try clear hk); (try clear hi)))
   go_meet
   case rel => exact ⟨_, (true), fS, H', ⟨by first | omega | exact Nat.le_refl _⟩, ⟨kS⟩, ⟨bS⟩⟩
 case rest =>
  clear HC2
  try clear c1
  try clear p2
  try clear c5
  try clear c6
  try clear c6b0
  try clear c6b1
  try clear c7
  try clear c13
  try clear hcz10_0
  try clear hcz10_1
  try clear hcz10_10
  try clear hcz10_11
  try clear hcz10_12
  try clear hcz10_2
  try clear hcz10_3
  try clear hcz10_4
  try clear hcz10_5
  try clear hcz10_6
  try clear hcz10_7
  try clear hcz10_8
  try clear hcz10_9
  try clear hcz12_0
  try clear hcz12_1
  try clear hcz12_10
  try clear hcz12_11
  try clear hcz12_12
  try clear hcz12_2
  try clear hcz12_3
  try clear hcz12_4
  try clear hcz12_5
  try clear hcz12_6
  try clear hcz12_7
  try clear hcz12_8
  try clear hcz12_9
  try clear hcz13_0
  try clear hcz13_1
  try clear hcz13_10
  try clear hcz13_11
  try clear hcz13_12
  try clear hcz13_2
  try clear hcz13_3
  try clear hcz13_4
  try clear hcz13_5
  try clear hcz13_6
  try clear hcz13_7
  try clear hcz13_8
  try clear hcz13_9
  try clear hcz7_0
  try clear hcz7_1
  try clear hcz7_10
  try clear hcz7_11
  try clear hcz7_12
  try clear hcz7_2
  try clear hcz7_3
  try clear hcz7_4
  try clear hcz7_5
  try clear hcz7_6
  try clear hcz7_7
  try clear hcz7_8
  try clear hcz7_9
  try clear hcz9_0
  try clear hcz9_1
  try clear hcz9_10
  try clear hcz9_11
  try clear hcz9_12
  try clear hcz9_2
  try clear hcz9_3
  try clear hcz9_4
  try clear hcz9_5
  try clear hcz9_6
  try clear hcz9_7
  try clear hcz9_8
  try clear hcz9_9
  try clear hfz10_0
  try clear hfz10_1
  try clear hfz10_10
  try clear hfz10_11
  try clear hfz10_12
  try clear hfz10_2
  try clear hfz10_3
  try clear hfz10_4
  try clear hfz10_5
  try clear hfz10_6
  try clear hfz10_7
  try clear hfz10_8
  try clear hfz10_9
  try clear hfz12_0
  try clear hfz12_1
  try clear hfz12_10
  try clear hfz12_11
  try clear hfz12_12
  try clear hfz12_2
  try clear hfz12_3
  try clear hfz12_4
  try clear hfz12_5
  try clear hfz12_6
  try clear hfz12_7
  try clear hfz12_8
  try clear hfz12_9
  try clear hfz13_0
  try clear hfz13_1
  try clear hfz13_10
  try clear hfz13_11
  try clear hfz13_12
  try clear hfz13_2
  try clear hfz13_3
  try clear hfz13_4
  try clear hfz13_5
  try clear hfz13_6
  try clear hfz13_7
  try clear hfz13_8
  try clear hfz13_9
  try clear hfz7_0
  try clear hfz7_1
  try clear hfz7_10
  try clear hfz7_11
  try clear hfz7_12
  try clear hfz7_2
  try clear hfz7_3
  try clear hfz7_4
  try clear hfz7_5
  try clear hfz7_6
  try clear hfz7_7
  try clear hfz7_8
  try clear hfz7_9
  try clear hfz9_0
  try clear hfz9_1
  try clear hfz9_10
  try clear hfz9_11
  try clear hfz9_12
  try clear hfz9_2
  try clear hfz9_3
  try clear hfz9_4
  try clear hfz9_5
  try clear hfz9_6
  try clear hfz9_7
  try clear hfz9_8
  try clear hfz9_9
  obtain ⟨kq, x22_1, rfl, HA, HJ1, BK283, HB⟩ := hcut
  cases kq with
  | zero => exact absurd HA.out (by simp [impl_PageOk.j0])
  | succ kj1 =>
   have H := HA.out
   clear HA
   simp only [impl_PageOk.j0] at H
   by_cases c15 : x22_1 = true
   ·subst c15
    rw [if_pos rfl] at H
    obtain rfl := Option.some.inj H
    go_wp2
    go_ret
    exact ⟨eS, bS⟩
   ·obtain rfl := Bool.eq_false_iff.mpr c15
    rw [if_neg nF] at H
    have H' := Aside0.mk H
    clear H
    have hcz16_0 : wc.cell? ⟨gb283, 0, none⟩ = some (.slice A0_0 l0_0.length c0_0) := (blk_cell BK283.out 0).trans rfl
    have hcz16_1 : wc.cell? ⟨gb283, 1, none⟩ = some (.int .i64 a0_1) := (blk_cell BK283.out 1).trans rfl
    have hcz16_2 : wc.cell? ⟨gb283, 2, none⟩ = some (.int .i64 a0_2) := (blk_cell BK283.out 2).trans rfl
    have hcz16_3 : wc.cell? ⟨gb283, 3, none⟩ = some (.int .i64 a0_3) := (blk_cell BK283.out 3).trans rfl
    have hcz16_4 : wc.cell? ⟨gb283, 4, none⟩ = some (.int .i64 a0_4) := (blk_cell BK283.out 4).trans rfl
    have hcz16_5 : wc.cell? ⟨gb283, 5, none⟩ = some (.slice A0_5 l0_5.length c0_5) := (blk_cell BK283.out 5).trans rfl
    have hcz16_6 : wc.cell? ⟨gb283, 6, none⟩ = some (.int .i64 a0_6) := (blk_cell BK283.out 6).trans rfl
    have hcz16_7 : wc.cell? ⟨gb283, 7, none⟩ = some (.int .i64 a0_7) := (blk_cell BK283.out 7).trans rfl
    have hcz16_8 : wc.cell? ⟨gb283, 8, none⟩ = some (.int .i64 a0_8) := (blk_cell BK283.out 8).trans rfl
    have hcz16_9 : wc.cell? ⟨gb283, 9, none⟩ = some (.int .i64 a0_9) := (blk_cell BK283.out 9).trans rfl
    have hcz16_10 : wc.cell? ⟨gb283, 10, none⟩ = some (.int .i64 a0_10) := (blk_cell BK283.out 10).trans rfl
    have hcz16_11 : wc.cell? ⟨gb283, 11, none⟩ = some (.slice A0_11 l0_11.length c0_11) := (blk_cell BK283.out 11).trans rfl
    have hcz16_12 : wc.cell? ⟨gb283, 12, none⟩ = some (.slice A0_12 l0_12.length c0_12) := (blk_cell BK283.out 12).trans rfl
    have hfz16_0 := blk_frozen BK283.out 0
    have hfz16_1 := blk_frozen BK283.out 1
    have hfz16_2 := blk_frozen BK283.out 2
    have hfz16_3 := blk_frozen BK283.out 3
    have hfz16_4 := blk_frozen BK283.out 4
    have hfz16_5 := blk_frozen BK283.out 5
    have hfz16_6 := blk_frozen BK283.out 6
    have hfz16_7 := blk_frozen BK283.out 7
    have hfz16_8 := blk_frozen BK283.out 8
    have hfz16_9 := blk_frozen BK283.out 9
    have hfz16_10 := blk_frozen BK283.out 10
    have hfz16_11 := blk_frozen BK283.out 11
    have hfz16_12 := blk_frozen BK283.out 12
    go_wp2
    go_loopg [26] kj1 (fun kq v26 w' => ∃ (x26_2 : Int), v26 = .int .i64 x26_2 ∧ Aside0 (impl_PageOk.l0 kq l0_11 (l0_11.length : Int) x26_2 l0_0 a0_1 a0_2 a0_3 a0_4 l0_5 a0_6 a0_7 a0_8 a0_9 a0_10 l0_11 l0_12 = some r) ∧ Aside0 (kq ≤ kj1) ∧ Aside0 (w'.heap[gb283]? = some (.cells #[(.slice A0_0 l0_0.length c0_0), .int .i64 a0_1, .int .i64 a0_2, .int .i64 a0_3, .int .i64 a0_4, (.slice A0_5 l0_5.length c0_5), .int .i64 a0_6, .int .i64 a0_7, .int .i64 a0_8, .int .i64 a0_9, .int .i64 a0_10, (.slice A0_11 l0_11.length c0_11), (.slice A0_12 l0_12.length c0_12)] 110 (0, 0))) ∧ Aside0 (Below w.heap.size w w'))
    case atStart => exact ⟨(0), fS, H', ⟨Nat.le_refl _⟩, ⟨kS⟩, ⟨bS⟩⟩
    case round =>
     clear H'
     try clear c1
     try clear p2
     try clear c5
     try clear c6
     try clear c6b0
     try clear c6b1
     try clear c7
     try clear c13
     try clear c15
     try clear hcz10_0
     try clear hcz10_1
     try clear hcz10_10
     try clear hcz10_11
     try clear hcz10_12
     try clear hcz10_2
     try clear hcz10_3
     try clear hcz10_4
     try clear hcz10_5
     try clear hcz10_6
     try clear hcz10_7
     try clear hcz10_8
     try clear hcz10_9
     try clear hcz12_0
     try clear hcz12_1
     try clear hcz12_10
     try clear hcz12_11
     try clear hcz12_12
     try clear hcz12_2
     try clear hcz12_3
     try clear hcz12_4
     try clear hcz12_5
     try clear hcz12_6
     try clear hcz12_7
     try clear hcz12_8
     try clear hcz12_9
     try clear hcz13_0
     try clear hcz13_1
     try clear hcz13_10
     try clear hcz13_11
     try clear hcz13_12
     try clear hcz13_2
     try clear hcz13_3
     try clear hcz13_4
     try clear hcz13_5
     try clear hcz13_6
     try clear hcz13_7
     try clear hcz13_8
     try clear hcz13_9
     try clear hcz16_0
     try clear hcz16_1
     try clear hcz16_10
     try clear hcz16_11
     try clear hcz16_12
     try clear hcz16_2
     try clear hcz16_3
     try clear hcz16_4
     try clear hcz16_5
     try clear hcz16_6
     try clear hcz16_7
     try clear hcz16_8
     try clear hcz16_9
     try clear hcz7_0
     try clear hcz7_1
     try clear hcz7_10
     try clear hcz7_11
     try clear hcz7_12
     try clear hcz7_2
     try clear hcz7_3
     try clear hcz7_4
     try clear hcz7_5
     try clear hcz7_6
     try clear hcz7_7
     try clear hcz7_8
     try clear hcz7_9
     try clear hcz9_0
     try clear hcz9_1
     try clear hcz9_10
     try clear hcz9_11
     try clear hcz9_12
     try clear hcz9_2
     try clear hcz9_3
     try clear hcz9_4
     try clear hcz9_5
     try clear hcz9_6
     try clear hcz9_7
     try clear hcz9_8
     try clear hcz9_9
     try clear hfz10_0
     try clear hfz10_1
     try clear hfz10_10
     try clear hfz10_11
     try clear hfz10_12
     try clear hfz10_2
     try clear hfz10_3
     try clear hfz10_4
     try clear hfz10_5
     try clear hfz10_6
     try clear hfz10_7
     try clear hfz10_8
     try clear hfz10_9
     try clear hfz12_0
     try clear hfz12_1
     try clear hfz12_10
     try clear hfz12_11
     try clear hfz12_12
     try clear hfz12_2
     try clear hfz12_3
     try clear hfz12_4
     try clear hfz12_5
     try clear hfz12_6
     try clear hfz12_7
     try clear hfz12_8
     try clear hfz12_9
     try clear hfz13_0
     try clear hfz13_1
     try clear hfz13_10
     try clear hfz13_11
     try clear hfz13_12
     try clear hfz13_2
     try clear hfz13_3
     try clear hfz13_4
     try clear hfz13_5
     try clear hfz13_6
     try clear hfz13_7
     try clear hfz13_8
     try clear hfz13_9
     try clear hfz16_0
     try clear hfz16_1
     try clear hfz16_10
     try clear hfz16_11
     try clear hfz16_12
     try clear hfz16_2
     try clear hfz16_3
     try clear hfz16_4
     try clear hfz16_5
     try clear hfz16_6
     try clear hfz16_7
     try clear hfz16_8
     try clear hfz16_9
     try clear hfz7_0
     try clear hfz7_1
     try clear hfz7_10
     try clear hfz7_11
     try clear hfz7_12
     try clear hfz7_2
     try clear hfz7_3
     try clear hfz7_4
     try clear hfz7_5
     try clear hfz7_6
     try clear hfz7_7
     try clear hfz7_8
     try clear hfz7_9
     try clear hfz9_0
     try clear hfz9_1
     try clear hfz9_10
     try clear hfz9_11
     try clear hfz9_12
     try clear hfz9_2
     try clear hfz9_3
     try clear hfz9_4
     try clear hfz9_5
     try clear hfz9_6
     try clear hfz9_7
     try clear hfz9_8
     try clear hfz9_9
     try clear p2
     obtain ⟨x26_2, rfl, HA, HK2, BK283, HB⟩ := hrel
     cases gk with
     | zero => exact absurd HA.out (by simp [impl_PageOk.l0])
     | succ k2 =>
      have H := HA.out
      clear HA
      simp only [impl_PageOk.l0] at H
      by_cases c17 : x26_2 < (l0_11.length : Int)
      ·rw [if_pos c17] at H
       have c17b0 : decide (x26_2 < (l0_11.length : Int)) = true := decide_eq_true c17
       clear c17
       obtain ⟨c18b0, H⟩ := iT H
       obtain ⟨c19b0, H⟩ := iT H
       replace H := bN H
       obtain ⟨t287, A20, H⟩ := H
       by_cases c21 : t287 = true
       ·subst c21
        rw [if_pos rfl] at H
        have H' := Aside0.mk H
        clear H
        have p285 : 0 ≤ (x26_2 : Int) := dA
        have q285 : x26_2 < (l0_11.length : Int) := dA
        obtain ⟨ad285, A285_0, c285_0, A285_5, c285_5, e285, hx285_0, hx285_1, hx285_2, hx285_3, hx285_4, hx285_5, hx285_6, hx285_7, hx285_8, hx285_9, hx285_10, hl285_0, hi285_0, hl285_5, hi285_5⟩ := at_T107 HR0_11.out x26_2 p285 q285
        cases e285
        replace hx285_0 := cB HB hx285_0
        replace hx285_1 := cB HB hx285_1
        replace hx285_2 := cB HB hx285_2
        replace hx285_3 := cB HB hx285_3
        replace hx285_4 := cB HB hx285_4
        replace hx285_5 := cB HB hx285_5
        replace hx285_6 := cB HB hx285_6
        replace hx285_7 := cB HB hx285_7
        replace hx285_8 := cB HB hx285_8
        replace hx285_9 := cB HB hx285_9
        replace hx285_10 := cB HB hx285_10
        have HR285_0 := Aside0.mk hi285_0
        have HC285_0 := Aside0.mk hl285_0
        clear hi285_0 hl285_0
        have HR285_5 := Aside0.mk hi285_5
        have HC285_5 := Aside0.mk hl285_5
        clear hi285_5 hl285_5
        replace p285 := eq_true p285
        replace q285 := eq_true q285
        go_wp2_with (first | ((with_reducible refine gD 4 ?_); refine bxE #[.slice none 0 0, .int .i64 0, .int .i64 0, .int .i64 0, .int .i64 0, .slice none 0 0, .int .i64 0, .int .i64 0, .int .i64 0, .int .i64 0, .int .i64 0] 107 ?_; intro gb286 hg w22 BK286 hb; have GW286 := gE hg; have GE286 := gE hg; have NB283_286 := nL (g := gb283) hg; have NB286_283 := nG (g := gb283) hg; replace BK283 := kB (g := gb283) hb; replace HB := hB hb; clear hb hg; have hnb23 := NB286_283.out; have hnc23 := NB283_286.out; have hcz24_0 : w22.cell? ⟨gb286, 0, none⟩ = some (.slice none 0 0) := (blk_cell BK286.out 0).trans rfl; have hcz24_1 : w22.cell? ⟨gb286, 1, none⟩ = some (.int .i64 0) := (blk_cell BK286.out 1).trans rfl; have hcz24_2 : w22.cell? ⟨gb286, 2, none⟩ = some (.int .i64 0) := (blk_cell BK286.out 2).trans rfl; have hcz24_3 : w22.cell? ⟨gb286, 3, none⟩ = some (.int .i64 0) := (blk_cell BK286.out 3).trans rfl; have hcz24_4 : w22.cell? ⟨gb286, 4, none⟩ = some (.int .i64 0) := (blk_cell BK286.out 4).trans rfl; have hcz24_5 : w22.cell? ⟨gb286, 5, none⟩ = some (.slice none 0 0) := (blk_cell BK286.out 5).trans rfl; have hcz24_6 : w22.cell? ⟨gb286, 6, none⟩ = some (.int .i64 0) := (blk_cell BK286.out 6).trans rfl; have hcz24_7 : w22.cell? ⟨gb286, 7, none⟩ = some (.int .i64 0) := (blk_cell BK286.out 7).trans rfl; have hcz24_8 : w22.cell? ⟨gb286, 8, none⟩ = some (.int .i64 0) := (blk_cell BK286.out 8).trans rfl; have hcz24_9 : w22.cell? ⟨gb286, 9, none⟩ = some (.int .i64 0) := (blk_cell BK286.out 9).trans rfl; have hcz24_10 : w22.cell? ⟨gb286, 10, none⟩ = some (.int .i64 0) := (blk_cell BK286.out 10).trans rfl; have hfz24_0 := blk_frozen BK286.out 0; have hfz24_1 := blk_frozen BK286.out 1; have hfz24_2 := blk_frozen BK286.out 2; have hfz24_3 := blk_frozen BK286.out 3; have hfz24_4 := blk_frozen BK286.out 4; have hfz24_5 := blk_frozen BK286.out 5; have hfz24_6 := blk_frozen BK286.out 6; have hfz24_7 := blk_frozen BK286.out 7; have hfz24_8 := blk_frozen BK286.out 8; have hfz24_9 := blk_frozen BK286.out 9; have hfz24_10 := blk_frozen BK286.out 10) | ((with_reducible refine gC 135 ?_); refine cL (some 31) Try.func135 #[.agg #[.slice A285_0 ((rd_T107 l0_11 x26_2).f0).length c285_0, .int .i64 ((rd_T107 l0_11 x26_2).f1.f0), .int .i64 ((rd_T107 l0_11 x26_2).f1.f1), .int .i64 ((rd_T107 l0_11 x26_2).f1.f2), .int .i64 ((rd_T107 l0_11 x26_2).f1.f3), .slice A285_5 ((rd_T107 l0_11 x26_2).f2).length c285_5, .int .i64 ((rd_T107 l0_11 x26_2).f3), .int .i64 ((rd_T107 l0_11 x26_2).f4.f0), .int .i64 ((rd_T107 l0_11 x26_2).f4.f1), .int .i64 ((rd_T107 l0_11 x26_2).f4.f2), .int .i64 ((rd_T107 l0_11 x26_2).f4.f3)]] ?_; (with_reducible refine (impl_GraphicsOk.calls k2 _ _ ((rd_T107 l0_11 x26_2).f0) ((rd_T107 l0_11 x26_2).f1.f0) ((rd_T107 l0_11 x26_2).f1.f1) ((rd_T107 l0_11 x26_2).f1.f2) ((rd_T107 l0_11 x26_2).f1.f3) _ _ ((rd_T107 l0_11 x26_2).f2) ((rd_T107 l0_11 x26_2).f3) ((rd_T107 l0_11 x26_2).f4.f0) ((rd_T107 l0_11 x26_2).f4.f1) ((rd_T107 l0_11 x26_2).f4.f2) ((rd_T107 l0_11 x26_2).f4.f3) _ _ (Kd.C_below HR285_0.out bS) HC285_0.out (Kd.C_below HR285_5.out bS) HC285_5.out A20.out).mono ?_); rintro e w25 ⟨rfl, hb⟩; refine ⟨_, rfl, ?_⟩; replace BK283 := kB (g := gb283) hb; replace BK286 := Aside0.mk (blk_below (g := gb286) (o := .cells #[.slice A285_0 ((rd_T107 l0_11 x26_2).f0).length c285_0, .int .i64 ((rd_T107 l0_11 x26_2).f1.f0), .int .i64 ((rd_T107 l0_11 x26_2).f1.f1), .int .i64 ((rd_T107 l0_11 x26_2).f1.f2), .int .i64 ((rd_T107 l0_11 x26_2).f1.f3), .slice A285_5 ((rd_T107 l0_11 x26_2).f2).length c285_5, .int .i64 ((rd_T107 l0_11 x26_2).f3), .int .i64 ((rd_T107 l0_11 x26_2).f4.f0), .int .i64 ((rd_T107 l0_11 x26_2).f4.f1), .int .i64 ((rd_T107 l0_11 x26_2).f4.f2), .int .i64 ((rd_T107 l0_11 x26_2).f4.f3)] 107 (0, 0)) (by (with_reducible repeat (first | refine blk_drewN ?_ _ | refine blk_drew ?_ | refine blk_alloc ?_ _)); refine blk_put (cs := #[.slice A285_0 ((rd_T107 l0_11 x26_2).f0).length c285_0, .int .i64 ((rd_T107 l0_11 x26_2).f1.f0), .int .i64 ((rd_T107 l0_11 x26_2).f1.f1), .int .i64 ((rd_T107 l0_11 x26_2).f1.f2), .int .i64 ((rd_T107 l0_11 x26_2).f1.f3), .slice A285_5 ((rd_T107 l0_11 x26_2).f2).length c285_5, .int .i64 ((rd_T107 l0_11 x26_2).f3), .int .i64 ((rd_T107 l0_11 x26_2).f4.f0), .int .i64 ((rd_T107 l0_11 x26_2).f4.f1), .int .i64 ((rd_T107 l0_11 x26_2).f4.f2), .int .i64 0]) ?_ 10 _ rfl; (with_reducible repeat (first | refine blk_drewN ?_ _ | refine blk_drew ?_ | refine blk_alloc ?_ _)); refine blk_put (cs := #[.slice A285_0 ((rd_T107 l0_11 x26_2).f0).length c285_0, .int .i64 ((rd_T107 l0_11 x26_2).f1.f0), .int .i64 ((rd_T107 l0_11 x26_2).f1.f1), .int .i64 ((rd_T107 l0_11 x26_2).f1.f2), .int .i64 ((rd_T107 l0_11 x26_2).f1.f3), .slice A285_5 ((rd_T107 l0_11 x26_2).f2).length c285_5, .int .i64 ((rd_T107 l0_11 x26_2).f3), .int .i64 ((rd_T107 l0_11 x26_2).f4.f0), .int .i64 ((rd_T107 l0_11 x26_2).f4.f1), .int .i64 0, .int .i64 0]) ?_ 9 _ rfl; (with_reducible repeat (first | refine blk_drewN ?_ _ | refine blk_drew ?_ | refine blk_alloc ?_ _)); refine blk_put (cs := #[.slice A285_0 ((rd_T107 l0_11 x26_2).f0).length c285_0, .int .i64 ((rd_T107 l0_11 x26_2).f1.f0), .int .i64 ((rd_T107 l0_11 x26_2).f1.f1), .int .i64 ((rd_T107 l0_11 x26_2).f1.f2), .int .i64 ((rd_T107 l0_11 x26_2).f1.f3), .slice A285_5 ((rd_T107 l0_11 x26_2).f2).length c285_5, .int .i64 ((rd_T107 l0_11 x26_2).f3), .int .i64 ((rd_T107 l0_11 x26_2).f4.f0), .int .i64 0, .int .i64 0, .int .i64 0]) ?_ 8 _ rfl; (with_reducible repeat (first | refine blk_drewN ?_ _ | refine blk_drew ?_ | refine blk_alloc ?_ _)); refine blk_put (cs := #[.slice A285_0 ((rd_T107 l0_11 x26_2).f0).length c285_0, .int .i64 ((rd_T107 l0_11 x26_2).f1.f0), .int .i64 ((rd_T107 l0_11 x26_2).f1.f1), .int .i64 ((rd_T107 l0_11 x26_2).f1.f2), .int .i64 ((rd_T107 l0_11 x26_2).f1.f3), .slice A285_5 ((rd_T107 l0_11 x26_2).f2).length c285_5, .int .i64 ((rd_T107 l0_11 x26_2).f3), .int .i64 0, .int .i64 0, .int .i64 0, .int .i64 0]) ?_ 7 _ rfl; (with_reducible repeat (first | refine blk_drewN ?_ _ | refine blk_drew ?_ | refine blk_alloc ?_ _)); refine blk_put (cs := #[.slice A285_0 ((rd_T107 l0_11 x26_2).f0).length c285_0, .int .i64 ((rd_T107 l0_11 x26_2).f1.f0), .int .i64 ((rd_T107 l0_11 x26_2).f1.f1), .int .i64 ((rd_T107 l0_11 x26_2).f1.f2), .int .i64 ((rd_T107 l0_11 x26_2).f1.f3), .slice A285_5 ((rd_T107 l0_11 x26_2).f2).length c285_5, .int .i64 0, .int .i64 0, .int .i64 0, .int .i64 0, .int .i64 0]) ?_ 6 _ rfl; (with_reducible repeat (first | refine blk_drewN ?_ _ | refine blk_drew ?_ | refine blk_alloc ?_ _)); refine blk_put (cs := #[.slice A285_0 ((rd_T107 l0_11 x26_2).f0).length c285_0, .int .i64 ((rd_T107 l0_11 x26_2).f1.f0), .int .i64 ((rd_T107 l0_11 x26_2).f1.f1), .int .i64 ((rd_T107 l0_11 x26_2).f1.f2), .int .i64 ((rd_T107 l0_11 x26_2).f1.f3), .slice none 0 0, .int .i64 0, .int .i64 0, .int .i64 0, .int .i64 0, .int .i64 0]) ?_ 5 _ rfl; (with_reducible repeat (first | refine blk_drewN ?_ _ | refine blk_drew ?_ | refine blk_alloc ?_ _)); refine blk_put (cs := #[.slice A285_0 ((rd_T107 l0_11 x26_2).f0).length c285_0, .int .i64 ((rd_T107 l0_11 x26_2).f1.f0), .int .i64 ((rd_T107 l0_11 x26_2).f1.f1), .int .i64 ((rd_T107 l0_11 x26_2).f1.f2), .int .i64 0, .slice none 0 0, .int .i64 0, .int .i64 0, .int .i64 0, .int .i64 0, .int .i64 0]) ?_ 4 _ rfl; (with_reducible repeat (first | refine blk_drewN ?_ _ | refine blk_drew ?_ | refine blk_alloc ?_ _)); refine blk_put (cs := #[.slice A285_0 ((rd_T107 l0_11 x26_2).f0).length c285_0, .int .i64 ((rd_T107 l0_11 x26_2).f1.f0), .int .i64 ((rd_T107 l0_11 x26_2).f1.f1), .int .i64 0, .int .i64 0, .slice none 0 0, .int .i64 0, .int .i64 0, .int .i64 0, .int .i64 0, .int .i64 0]) ?_ 3 _ rfl; (with_reducible repeat (first | refine blk_drewN ?_ _ | refine blk_drew ?_ | refine blk_alloc ?_ _)); refine blk_put (cs := #[.slice A285_0 ((rd_T107 l0_11 x26_2).f0).length c285_0, .int .i64 ((rd_T107 l0_11 x26_2).f1.f0), .int .i64 0, .int .i64 0, .int .i64 0, .slice none 0 0, .int .i64 0, .int .i64 0, .int .i64 0, .int .i64 0, .int .i64 0]) ?_ 2 _ rfl; (with_reducible repeat (first | refine blk_drewN ?_ _ | refine blk_drew ?_ | refine blk_alloc ?_ _)); refine blk_put (cs := #[.slice A285_0 ((rd_T107 l0_11 x26_2).f0).length c285_0, .int .i64 0, .int .i64 0, .int .i64 0, .int .i64 0, .slice none 0 0, .int .i64 0, .int .i64 0, .int .i64 0, .int .i64 0, .int .i64 0]) ?_ 1 _ rfl; (with_reducible repeat (first | refine blk_drewN ?_ _ | refine blk_drew ?_ | refine blk_alloc ?_ _)); refine blk_put (cs := #[.slice none 0 0, .int .i64 0, .int .i64 0, .int .i64 0, .int .i64 0, .slice none 0 0, .int .i64 0, .int .i64 0, .int .i64 0, .int .i64 0, .int .i64 0]) ?_ 0 _ rfl; (with_reducible repeat (first | refine blk_drewN ?_ _ | refine blk_drew ?_ | refine blk_alloc ?_ _)); exact BK286.out) hb); replace HB := hB hb; (try clear hb); (try clear hb2); (try clear hk); (try clear hi)))
        go_roundg k2
        case measure => have := HJ1.out; have := HK2.out; omega
        case rel => exact ⟨(wrap64 (x26_2 + 1)), fS, H', ⟨by have := HJ1.out; have := HK2.out; omega⟩, ⟨kS⟩, ⟨bS⟩⟩
       ·obtain rfl := Bool.eq_false_iff.mpr c21
        rw [if_neg nF] at H
        obtain rfl := Option.some.inj H
        have p285 : 0 ≤ (x26_2 : Int) := dA
        have q285 : x26_2 < (l0_11.length : Int) := dA
        obtain ⟨ad285, A285_0, c285_0, A285_5, c285_5, e285, hx285_0, hx285_1, hx285_2, hx285_3, hx285_4, hx285_5, hx285_6, hx285_7, hx285_8, hx285_9, hx285_10, hl285_0, hi285_0, hl285_5, hi285_5⟩ := at_T107 HR0_11.out x26_2 p285 q285
        cases e285
        replace hx285_0 := cB HB hx285_0
        replace hx285_1 := cB HB hx285_1
        replace hx285_2 := cB HB hx285_2
        replace hx285_3 := cB HB hx285_3
        replace hx285_4 := cB HB hx285_4
        replace hx285_5 := cB HB hx285_5
        replace hx285_6 := cB HB hx285_6
        replace hx285_7 := cB HB hx285_7
        replace hx285_8 := cB HB hx285_8
        replace hx285_9 := cB HB hx285_9
        replace hx285_10 := cB HB hx285_10
        have HR285_0 := Aside0.mk hi285_0
        have HC285_0 := Aside0.mk hl285_0
        clear hi285_0 hl285_0
        have HR285_5 := Aside0.mk hi285_5
        have HC285_5 := Aside0.mk hl285_5
        clear hi285_5 hl285_5
        replace p285 := eq_true p285
        replace q285 := eq_true q285
        go_wp2_with (first | ((with_reducible refine gD 4 ?_); refine bxE #[.slice none 0 0, .int .i64 0, .int .i64 0, .int .i64 0, .int .i64 0, .slice none 0 0, .int .i64 0, .int .i64 0, .int .i64 0, .int .i64 0, .int .i64 0] 107 ?_; intro gb286 hg w26 BK286 hb; have GW286 := gE hg; have GE286 := gE hg; have NB283_286 := nL (g := gb283) hg; have NB286_283 := nG (g := gb283) hg; replace BK283 := kB (g := gb283) hb; replace HB := hB hb; clear hb hg; have hnb27 := NB286_283.out; have hnc27 := NB283_286.out; have hcz28_0 : w26.cell? ⟨gb286, 0, none⟩ = some (.slice none 0 0) := (blk_cell BK286.out 0).trans rfl; have hcz28_1 : w26.cell? ⟨gb286, 1, none⟩ = some (.int .i64 0) := (blk_cell BK286.out 1).trans rfl; have hcz28_2 : w26.cell? ⟨gb286, 2, none⟩ = some (.int .i64 0) := (blk_cell BK286.out 2).trans rfl; have hcz28_3 : w26.cell? ⟨gb286, 3, none⟩ = some (.int .i64 0) := (blk_cell BK286.out 3).trans rfl; have hcz28_4 : w26.cell? ⟨gb286, 4, none⟩ = some (.int .i64 0) := (blk_cell BK286.out 4).trans rfl; have hcz28_5 : w26.cell? ⟨gb286, 5, none⟩ = some (.slice none 0 0) := (blk_cell BK286.out 5).trans rfl; have hcz28_6 : w26.cell? ⟨gb286, 6, none⟩ = some (.int .i64 0) := (blk_cell BK286.out 6).trans rfl; have hcz28_7 : w26.cell? ⟨gb286, 7, none⟩ = some (.int .i64 0) := (blk_cell BK286.out 7).trans rfl; have hcz28_8 : w26.cell? ⟨gb286, 8, none⟩ = some (.int .i64 0) := (blk_cell BK286.out 8).trans rfl; have hcz28_9 : w26.cell? ⟨gb286, 9, none⟩ = some (.int .i64 0) := (blk_cell BK286.out 9).trans rfl; have hcz28_10 : w26.cell? ⟨gb286, 10, none⟩ = some (.int .i64 0) := (blk_cell BK286.out 10).trans rfl; have hfz28_0 := blk_frozen BK286.out 0; have hfz28_1 := blk_frozen BK286.out 1; have hfz28_2 := blk_frozen BK286.out 2; have hfz28_3 := blk_frozen BK286.out 3; have hfz28_4 := blk_frozen BK286.out 4; have hfz28_5 := blk_frozen BK286.out 5; have hfz28_6 := blk_frozen BK286.out 6; have hfz28_7 := blk_frozen BK286.out 7; have hfz28_8 := blk_frozen BK286.out 8; have hfz28_9 := blk_frozen BK286.out 9; have hfz28_10 := blk_frozen BK286.out 10) | ((with_reducible refine gC 135 ?_); refine cL (some 31) Try.func135 #[.agg #[.slice A285_0 ((rd_T107 l0_11 x26_2).f0).length c285_0, .int .i64 ((rd_T107 l0_11 x26_2).f1.f0), .int .i64 ((rd_T107 l0_11 x26_2).f1.f1), .int .i64 ((rd_T107 l0_11 x26_2).f1.f2), .int .i64 ((rd_T107 l0_11 x26_2).f1.f3), .slice A285_5 ((rd_T107 l0_11 x26_2).f2).length c285_5, .int .i64 ((rd_T107 l0_11 x26_2).f3), .int .i64 ((rd_T107 l0_11 x26_2).f4.f0), .int .i64 ((rd_T107 l0_11 x26_2).f4.f1), .int .i64 ((rd_T107 l0_11 x26_2).f4.f2), .int .i64 ((rd_T107 l0_11 x26_2).f4.f3)]] ?_; (with_reducible refine (impl_GraphicsOk.calls k2 _ _ ((rd_T107 l0_11 x26_2).f0) ((rd_T107 l0_11 x26_2).f1.f0) ((rd_T107 l0_11 x26_2).f1.f1) ((rd_T107 l0_11 x26_2).f1.f2) ((rd_T107 l0_11 x26_2).f1.f3) _ _ ((rd_T107 l0_11 x26_2).f2) ((rd_T107 l0_11 x26_2).f3) ((rd_T107 l0_11 x26_2).f4.f0) ((rd_T107 l0_11 x26_2).f4.f1) ((rd_T107 l0_11 x26_2).f4.f2) ((rd_T107 l0_11 x26_2).f4.f3) _ _ (Kd.C_below HR285_0.out bS) HC285_0.out (Kd.C_below HR285_5.out bS) HC285_5.out A20.out).mono ?_); rintro e w29 ⟨rfl, hb⟩; refine ⟨_, rfl, ?_⟩; replace BK283 := kB (g := gb283) hb; replace BK286 := Aside0.mk (blk_below (g := gb286) (o := .cells #[.slice A285_0 ((rd_T107 l0_11 x26_2).f0).length c285_0, .int .i64 ((rd_T107 l0_11 x26_2).f1.f0), .int .i64 ((rd_T107 l0_11 x26_2).f1.f1), .int .i64 ((rd_T107 l0_11 x26_2).f1.f2), .int .i64 ((rd_T107 l0_11 x26_2).f1.f3), .slice A285_5 ((rd_T107 l0_11 x26_2).f2).length c285_5, .int .i64 ((rd_T107 l0_11 x26_2).f3), .int .i64 ((rd_T107 l0_11 x26_2).f4.f0), .int .i64 ((rd_T107 l0_11 x26_2).f4.f1), .int .i64 ((rd_T107 l0_11 x26_2).f4.f2), .int .i64 ((rd_T107 l0_11 x26_2).f4.f3)] 107 (0, 0)) (by (with_reducible repeat (first | refine blk_drewN ?_ _ | refine blk_drew ?_ | refine blk_alloc ?_ _)); refine blk_put (cs := #[.slice A285_0 ((rd_T107 l0_11 x26_2).f0).length c285_0, .int .i64 ((rd_T107 l0_11 x26_2).f1.f0), .int .i64 ((rd_T107 l0_11 x26_2).f1.f1), .int .i64 ((rd_T107 l0_11 x26_2).f1.f2), .int .i64 ((rd_T107 l0_11 x26_2).f1.f3), .slice A285_5 ((rd_T107 l0_11 x26_2).f2).length c285_5, .int .i64 ((rd_T107 l0_11 x26_2).f3), .int .i64 ((rd_T107 l0_11 x26_2).f4.f0), .int .i64 ((rd_T107 l0_11 x26_2).f4.f1), .int .i64 ((rd_T107 l0_11 x26_2).f4.f2), .int .i64 0]) ?_ 10 _ rfl; (with_reducible repeat (first | refine blk_drewN ?_ _ | refine blk_drew ?_ | refine blk_alloc ?_ _)); refine blk_put (cs := #[.slice A285_0 ((rd_T107 l0_11 x26_2).f0).length c285_0, .int .i64 ((rd_T107 l0_11 x26_2).f1.f0), .int .i64 ((rd_T107 l0_11 x26_2).f1.f1), .int .i64 ((rd_T107 l0_11 x26_2).f1.f2), .int .i64 ((rd_T107 l0_11 x26_2).f1.f3), .slice A285_5 ((rd_T107 l0_11 x26_2).f2).length c285_5, .int .i64 ((rd_T107 l0_11 x26_2).f3), .int .i64 ((rd_T107 l0_11 x26_2).f4.f0), .int .i64 ((rd_T107 l0_11 x26_2).f4.f1), .int .i64 0, .int .i64 0]) ?_ 9 _ rfl; (with_reducible repeat (first | refine blk_drewN ?_ _ | refine blk_drew ?_ | refine blk_alloc ?_ _)); refine blk_put (cs := #[.slice A285_0 ((rd_T107 l0_11 x26_2).f0).length c285_0, .int .i64 ((rd_T107 l0_11 x26_2).f1.f0), .int .i64 ((rd_T107 l0_11 x26_2).f1.f1), .int .i64 ((rd_T107 l0_11 x26_2).f1.f2), .int .i64 ((rd_T107 l0_11 x26_2).f1.f3), .slice A285_5 ((rd_T107 l0_11 x26_2).f2).length c285_5, .int .i64 ((rd_T107 l0_11 x26_2).f3), .int .i64 ((rd_T107 l0_11 x26_2).f4.f0), .int .i64 0, .int .i64 0, .int .i64 0]) ?_ 8 _ rfl; (with_reducible repeat (first | refine blk_drewN ?_ _ | refine blk_drew ?_ | refine blk_alloc ?_ _)); refine blk_put (cs := #[.slice A285_0 ((rd_T107 l0_11 x26_2).f0).length c285_0, .int .i64 ((rd_T107 l0_11 x26_2).f1.f0), .int .i64 ((rd_T107 l0_11 x26_2).f1.f1), .int .i64 ((rd_T107 l0_11 x26_2).f1.f2), .int .i64 ((rd_T107 l0_11 x26_2).f1.f3), .slice A285_5 ((rd_T107 l0_11 x26_2).f2).length c285_5, .int .i64 ((rd_T107 l0_11 x26_2).f3), .int .i64 0, .int .i64 0, .int .i64 0, .int .i64 0]) ?_ 7 _ rfl; (with_reducible repeat (first | refine blk_drewN ?_ _ | refine blk_drew ?_ | refine blk_alloc ?_ _)); refine blk_put (cs := #[.slice A285_0 ((rd_T107 l0_11 x26_2).f0).length c285_0, .int .i64 ((rd_T107 l0_11 x26_2).f1.f0), .int .i64 ((rd_T107 l0_11 x26_2).f1.f1), .int .i64 ((rd_T107 l0_11 x26_2).f1.f2), .int .i64 ((rd_T107 l0_11 x26_2).f1.f3), .slice A285_5 ((rd_T107 l0_11 x26_2).f2).length c285_5, .int .i64 0, .int .i64 0, .int .i64 0, .int .i64 0, .int .i64 0]) ?_ 6 _ rfl; (with_reducible repeat (first | refine blk_drewN ?_ _ | refine blk_drew ?_ | refine blk_alloc ?_ _)); refine blk_put (cs := #[.slice A285_0 ((rd_T107 l0_11 x26_2).f0).length c285_0, .int .i64 ((rd_T107 l0_11 x26_2).f1.f0), .int .i64 ((rd_T107 l0_11 x26_2).f1.f1), .int .i64 ((rd_T107 l0_11 x26_2).f1.f2), .int .i64 ((rd_T107 l0_11 x26_2).f1.f3), .slice none 0 0, .int .i64 0, .int .i64 0, .int .i64 0, .int .i64 0, .int .i64 0]) ?_ 5 _ rfl; (with_reducible repeat (first | refine blk_drewN ?_ _ | refine blk_drew ?_ | refine blk_alloc ?_ _)); refine blk_put (cs := #[.slice A285_0 ((rd_T107 l0_11 x26_2).f0).length c285_0, .int .i64 ((rd_T107 l0_11 x26_2).f1.f0), .int .i64 ((rd_T107 l0_11 x26_2).f1.f1), .int .i64 ((rd_T107 l0_11 x26_2).f1.f2), .int .i64 0, .slice none 0 0, .int .i64 0, .int .i64 0, .int .i64 0, .int .i64 0, .int .i64 0]) ?_ 4 _ rfl; (with_reducible repeat (first | refine blk_drewN ?_ _ | refine blk_drew ?_ | refine blk_alloc ?_ _)); refine blk_put (cs := #[.slice A285_0 ((rd_T107 l0_11 x26_2).f0).length c285_0, .int .i64 ((rd_T107 l0_11 x26_2).f1.f0), .int .i64 ((rd_T107 l0_11 x26_2).f1.f1), .int .i64 0, .int .i64 0, .slice none 0 0, .int .i64 0, .int .i64 0, .int .i64 0, .int .i64 0, .int .i64 0]) ?_ 3 _ rfl; (with_reducible repeat (first | refine blk_drewN ?_ _ | refine blk_drew ?_ | refine blk_alloc ?_ _)); refine blk_put (cs := #[.slice A285_0 ((rd_T107 l0_11 x26_2).f0).length c285_0, .int .i64 ((rd_T107 l0_11 x26_2).f1.f0), .int .i64 0, .int .i64 0, .int .i64 0, .slice none 0 0, .int .i64 0, .int .i64 0, .int .i64 0, .int .i64 0, .int .i64 0]) ?_ 2 _ rfl; (with_reducible repeat (first | refine blk_drewN ?_ _ | refine blk_drew ?_ | refine blk_alloc ?_ _)); refine blk_put (cs := #[.slice A285_0 ((rd_T107 l0_11 x26_2).f0).length c285_0, .int .i64 0, .int .i64 0, .int .i64 0, .int .i64 0, .slice none 0 0, .int .i64 0, .int .i64 0, .int .i64 0, .int .i64 0, .int .i64 0]) ?_ 1 _ rfl; (with_reducible repeat (first | refine blk_drewN ?_ _ | refine blk_drew ?_ | refine blk_alloc ?_ _)); refine blk_put (cs := #[.slice none 0 0, .int .i64 0, .int .i64 0, .int .i64 0, .int .i64 0, .slice none 0 0, .int .i64 0, .int .i64 0, .int .i64 0, .int .i64 0, .int .i64 0]) ?_ 0 _ rfl; (with_reducible repeat (first | refine blk_drewN ?_ _ | refine blk_drew ?_ | refine blk_alloc ?_ _)); exact BK286.out) hb); replace HB := hB hb; (try clear hb); (try clear hb2); (try clear hk); (try clear hi)))
        go_ret
        exact ⟨eS, bS⟩
      ·rw [if_neg c17] at H
       have c17b0 : decide (x26_2 < (l0_11.length : Int)) = false := decide_eq_false c17
       clear c17
       have H' := Aside0.mk H
       clear H
       have hcz30_0 : wr.cell? ⟨gb283, 0, none⟩ = some (.slice A0_0 l0_0.length c0_0) := (blk_cell BK283.out 0).trans rfl
       have hcz30_1 : wr.cell? ⟨gb283, 1, none⟩ = some (.int .i64 a0_1) := (blk_cell BK283.out 1).trans rfl
       have hcz30_2 : wr.cell? ⟨gb283, 2, none⟩ = some (.int .i64 a0_2) := (blk_cell BK283.out 2).trans rfl
       have hcz30_3 : wr.cell? ⟨gb283, 3, none⟩ = some (.int .i64 a0_3) := (blk_cell BK283.out 3).trans rfl
       have hcz30_4 : wr.cell? ⟨gb283, 4, none⟩ = some (.int .i64 a0_4) := (blk_cell BK283.out 4).trans rfl
       have hcz30_5 : wr.cell? ⟨gb283, 5, none⟩ = some (.slice A0_5 l0_5.length c0_5) := (blk_cell BK283.out 5).trans rfl
       have hcz30_6 : wr.cell? ⟨gb283, 6, none⟩ = some (.int .i64 a0_6) := (blk_cell BK283.out 6).trans rfl
       have hcz30_7 : wr.cell? ⟨gb283, 7, none⟩ = some (.int .i64 a0_7) := (blk_cell BK283.out 7).trans rfl
       have hcz30_8 : wr.cell? ⟨gb283, 8, none⟩ = some (.int .i64 a0_8) := (blk_cell BK283.out 8).trans rfl
       have hcz30_9 : wr.cell? ⟨gb283, 9, none⟩ = some (.int .i64 a0_9) := (blk_cell BK283.out 9).trans rfl
       have hcz30_10 : wr.cell? ⟨gb283, 10, none⟩ = some (.int .i64 a0_10) := (blk_cell BK283.out 10).trans rfl
       have hcz30_11 : wr.cell? ⟨gb283, 11, none⟩ = some (.slice A0_11 l0_11.length c0_11) := (blk_cell BK283.out 11).trans rfl
       have hcz30_12 : wr.cell? ⟨gb283, 12, none⟩ = some (.slice A0_12 l0_12.length c0_12) := (blk_cell BK283.out 12).trans rfl
       have hfz30_0 := blk_frozen BK283.out 0
       have hfz30_1 := blk_frozen BK283.out 1
       have hfz30_2 := blk_frozen BK283.out 2
       have hfz30_3 := blk_frozen BK283.out 3
       have hfz30_4 := blk_frozen BK283.out 4
       have hfz30_5 := blk_frozen BK283.out 5
       have hfz30_6 := blk_frozen BK283.out 6
       have hfz30_7 := blk_frozen BK283.out 7
       have hfz30_8 := blk_frozen BK283.out 8
       have hfz30_9 := blk_frozen BK283.out 9
       have hfz30_10 := blk_frozen BK283.out 10
       have hfz30_11 := blk_frozen BK283.out 11
       have hfz30_12 := blk_frozen BK283.out 12
       go_wp2
       go_loopg [37] k2 (fun kq v37 w' => ∃ (x37_3 : Int), v37 = .int .i64 x37_3 ∧ Aside0 (impl_PageOk.l1 kq l0_12 (l0_12.length : Int) x37_3 = some r) ∧ Aside0 (kq ≤ k2) ∧ Aside0 (w'.heap[gb283]? = some (.cells #[(.slice A0_0 l0_0.length c0_0), .int .i64 a0_1, .int .i64 a0_2, .int .i64 a0_3, .int .i64 a0_4, (.slice A0_5 l0_5.length c0_5), .int .i64 a0_6, .int .i64 a0_7, .int .i64 a0_8, .int .i64 a0_9, .int .i64 a0_10, (.slice A0_11 l0_11.length c0_11), (.slice A0_12 l0_12.length c0_12)] 110 (0, 0))) ∧ Aside0 (Below w.heap.size w w'))
       case atStart => exact ⟨(0), fS, H', ⟨Nat.le_refl _⟩, ⟨kS⟩, ⟨bS⟩⟩
       case round =>
        clear H'
        try clear c1
        try clear c2
        try clear p2
        try clear q2
        try clear hx2
        try clear c5
        try clear c6
        try clear c6b0
        try clear c6b1
        try clear p6
        try clear c7
        try clear c13
        try clear c15
        try clear c17
        try clear c17b0
        try clear c18
        try clear c18b0
        try clear c19
        try clear c19b0
        try clear c21
        try clear c23
        try clear c27
        try clear c28
        try clear p28
        try clear q28
        try clear hx28
        try clear hcz10_0
        try clear hcz10_1
        try clear hcz10_10
        try clear hcz10_11
        try clear hcz10_12
        try clear hcz10_2
        try clear hcz10_3
        try clear hcz10_4
        try clear hcz10_5
        try clear hcz10_6
        try clear hcz10_7
        try clear hcz10_8
        try clear hcz10_9
        try clear hcz12_0
        try clear hcz12_1
        try clear hcz12_10
        try clear hcz12_11
        try clear hcz12_12
        try clear hcz12_2
        try clear hcz12_3
        try clear hcz12_4
        try clear hcz12_5
        try clear hcz12_6
        try clear hcz12_7
        try clear hcz12_8
        try clear hcz12_9
        try clear hcz13_0
        try clear hcz13_1
        try clear hcz13_10
        try clear hcz13_11
        try clear hcz13_12
        try clear hcz13_2
        try clear hcz13_3
        try clear hcz13_4
        try clear hcz13_5
        try clear hcz13_6
        try clear hcz13_7
        try clear hcz13_8
        try clear hcz13_9
        try clear hcz16_0
        try clear hcz16_1
        try clear hcz16_10
        try clear hcz16_11
        try clear hcz16_12
        try clear hcz16_2
        try clear hcz16_3
        try clear hcz16_4
        try clear hcz16_5
        try clear hcz16_6
        try clear hcz16_7
        try clear hcz16_8
        try clear hcz16_9
        try clear hcz24_0
        try clear hcz24_1
        try clear hcz24_10
        try clear hcz24_2
        try clear hcz24_3
        try clear hcz24_4
        try clear hcz24_5
        try clear hcz24_6
        try clear hcz24_7
        try clear hcz24_8
        try clear hcz24_9
        try clear hcz28_0
        try clear hcz28_1
        try clear hcz28_10
        try clear hcz28_2
        try clear hcz28_3
        try clear hcz28_4
        try clear hcz28_5
        try clear hcz28_6
        try clear hcz28_7
        try clear hcz28_8
        try clear hcz28_9
        try clear hcz30_0
        try clear hcz30_1
        try clear hcz30_10
        try clear hcz30_11
        try clear hcz30_12
        try clear hcz30_2
        try clear hcz30_3
        try clear hcz30_4
        try clear hcz30_5
        try clear hcz30_6
        try clear hcz30_7
        try clear hcz30_8
        try clear hcz30_9
        try clear hcz7_0
        try clear hcz7_1
        try clear hcz7_10
        try clear hcz7_11
        try clear hcz7_12
        try clear hcz7_2
        try clear hcz7_3
        try clear hcz7_4
        try clear hcz7_5
        try clear hcz7_6
        try clear hcz7_7
        try clear hcz7_8
        try clear hcz7_9
        try clear hcz9_0
        try clear hcz9_1
        try clear hcz9_10
        try clear hcz9_11
        try clear hcz9_12
        try clear hcz9_2
        try clear hcz9_3
        try clear hcz9_4
        try clear hcz9_5
        try clear hcz9_6
        try clear hcz9_7
        try clear hcz9_8
        try clear hcz9_9
        try clear hfz10_0
        try clear hfz10_1
        try clear hfz10_10
        try clear hfz10_11
        try clear hfz10_12
        try clear hfz10_2
        try clear hfz10_3
        try clear hfz10_4
        try clear hfz10_5
        try clear hfz10_6
        try clear hfz10_7
        try clear hfz10_8
        try clear hfz10_9
        try clear hfz12_0
        try clear hfz12_1
        try clear hfz12_10
        try clear hfz12_11
        try clear hfz12_12
        try clear hfz12_2
        try clear hfz12_3
        try clear hfz12_4
        try clear hfz12_5
        try clear hfz12_6
        try clear hfz12_7
        try clear hfz12_8
        try clear hfz12_9
        try clear hfz13_0
        try clear hfz13_1
        try clear hfz13_10
        try clear hfz13_11
        try clear hfz13_12
        try clear hfz13_2
        try clear hfz13_3
        try clear hfz13_4
        try clear hfz13_5
        try clear hfz13_6
        try clear hfz13_7
        try clear hfz13_8
        try clear hfz13_9
        try clear hfz16_0
        try clear hfz16_1
        try clear hfz16_10
        try clear hfz16_11
        try clear hfz16_12
        try clear hfz16_2
        try clear hfz16_3
        try clear hfz16_4
        try clear hfz16_5
        try clear hfz16_6
        try clear hfz16_7
        try clear hfz16_8
        try clear hfz16_9
        try clear hfz24_0
        try clear hfz24_1
        try clear hfz24_10
        try clear hfz24_2
        try clear hfz24_3
        try clear hfz24_4
        try clear hfz24_5
        try clear hfz24_6
        try clear hfz24_7
        try clear hfz24_8
        try clear hfz24_9
        try clear hfz28_0
        try clear hfz28_1
        try clear hfz28_10
        try clear hfz28_2
        try clear hfz28_3
        try clear hfz28_4
        try clear hfz28_5
        try clear hfz28_6
        try clear hfz28_7
        try clear hfz28_8
        try clear hfz28_9
        try clear hfz30_0
        try clear hfz30_1
        try clear hfz30_10
        try clear hfz30_11
        try clear hfz30_12
        try clear hfz30_2
        try clear hfz30_3
        try clear hfz30_4
        try clear hfz30_5
        try clear hfz30_6
        try clear hfz30_7
        try clear hfz30_8
        try clear hfz30_9
        try clear hfz7_0
        try clear hfz7_1
        try clear hfz7_10
        try clear hfz7_11
        try clear hfz7_12
        try clear hfz7_2
        try clear hfz7_3
        try clear hfz7_4
        try clear hfz7_5
        try clear hfz7_6
        try clear hfz7_7
        try clear hfz7_8
        try clear hfz7_9
        try clear hfz9_0
        try clear hfz9_1
        try clear hfz9_10
        try clear hfz9_11
        try clear hfz9_12
        try clear hfz9_2
        try clear hfz9_3
        try clear hfz9_4
        try clear hfz9_5
        try clear hfz9_6
        try clear hfz9_7
        try clear hfz9_8
        try clear hfz9_9
        try clear hx285_0
        try clear hx285_1
        try clear hx285_10
        try clear hx285_2
        try clear hx285_3
        try clear hx285_4
        try clear hx285_5
        try clear hx285_6
        try clear hx285_7
        try clear hx285_8
        try clear hx285_9
        try clear p2
        try clear p285
        try clear q285
        obtain ⟨x37_3, rfl, HA, HK3, BK283, HB⟩ := hrel
        cases gk with
        | zero => exact absurd HA.out (by simp [impl_PageOk.l1])
        | succ k3 =>
         have H := HA.out
         clear HA
         simp only [impl_PageOk.l1] at H
         rcases iD H with ⟨c31b0, H⟩ | ⟨c31b0, H⟩
         ·obtain ⟨c32b0, H⟩ := iT H
          obtain ⟨c33b0, H⟩ := iT H
          replace H := bN H
          obtain ⟨t290, A34, H⟩ := H
          by_cases c35 : t290 = true
          ·subst c35
           rw [if_pos rfl] at H
           have H' := Aside0.mk H
           clear H
           have p288 : 0 ≤ (x37_3 : Int) := dA
           have q288 : x37_3 < (l0_12.length : Int) := dA
           obtain ⟨ad288, A288_0, c288_0, e288, hx288_0, hx288_1, hx288_2, hx288_3, hx288_4, hx288_5, hl288_0, hi288_0⟩ := at_T41 HR0_12.out x37_3 p288 q288
           cases e288
           replace hx288_0 := cB HB hx288_0
           replace hx288_1 := cB HB hx288_1
           replace hx288_2 := cB HB hx288_2
           replace hx288_3 := cB HB hx288_3
           replace hx288_4 := cB HB hx288_4
           replace hx288_5 := cB HB hx288_5
           have HR288_0 := Aside0.mk hi288_0
           have HC288_0 := Aside0.mk hl288_0
           clear hi288_0 hl288_0
           replace p288 := eq_true p288
           replace q288 := eq_true q288
           go_wp2_with (first | ((with_reducible refine gD 6 ?_); refine bxE #[.slice none 0 0, .int .i64 0, .int .i64 0, .int .i64 0, .int .i64 0, .int .i64 0] 41 ?_; intro gb289 hg w36 BK289 hb; have GW289 := gE hg; have GE289 := gE hg; have NB283_289 := nL (g := gb283) hg; have NB289_283 := nG (g := gb283) hg; replace BK283 := kB (g := gb283) hb; replace HB := hB hb; clear hb hg; have hnb37 := NB289_283.out; have hnc37 := NB283_289.out; have hz38 := cz6 BK289) | ((with_reducible refine gC 107 ?_); refine cL (some 42) Try.func107 #[.agg #[.slice A288_0 ((rd_T41 l0_12 x37_3).f0).length c288_0, .int .i64 ((rd_T41 l0_12 x37_3).f1), .int .i64 ((rd_T41 l0_12 x37_3).f2.f0), .int .i64 ((rd_T41 l0_12 x37_3).f2.f1), .int .i64 ((rd_T41 l0_12 x37_3).f2.f2), .int .i64 ((rd_T41 l0_12 x37_3).f2.f3)]] ?_; (with_reducible refine (impl_ObjectOk.calls k3 _ _ ((rd_T41 l0_12 x37_3).f0) ((rd_T41 l0_12 x37_3).f1) ((rd_T41 l0_12 x37_3).f2.f0) ((rd_T41 l0_12 x37_3).f2.f1) ((rd_T41 l0_12 x37_3).f2.f2) ((rd_T41 l0_12 x37_3).f2.f3) _ _ (Kd.C_below HR288_0.out bS) HC288_0.out A34.out).mono ?_); rintro e w39 ⟨rfl, hb⟩; refine ⟨_, rfl, ?_⟩; replace BK283 := kB (g := gb283) hb; replace BK289 := Aside0.mk (blk_below (g := gb289) (o := .cells #[.slice A288_0 ((rd_T41 l0_12 x37_3).f0).length c288_0, .int .i64 ((rd_T41 l0_12 x37_3).f1), .int .i64 ((rd_T41 l0_12 x37_3).f2.f0), .int .i64 ((rd_T41 l0_12 x37_3).f2.f1), .int .i64 ((rd_T41 l0_12 x37_3).f2.f2), .int .i64 ((rd_T41 l0_12 x37_3).f2.f3)] 41 (0, 0)) kS hb); replace HB := hB hb; (try clear hb); (try clear hb2); (try clear hk); (try clear hi)))
           go_roundg k3
           case measure => have := HJ1.out; have := HK2.out; have := HK3.out; omega
           case rel => exact ⟨(wrap64 (x37_3 + 1)), fS, H', ⟨by have := HJ1.out; have := HK2.out; have := HK3.out; omega⟩, ⟨kS⟩, ⟨bS⟩⟩
          ·obtain rfl := Bool.eq_false_iff.mpr c35
           rw [if_neg nF] at H
           obtain rfl := Option.some.inj H
           have p288 : 0 ≤ (x37_3 : Int) := dA
           have q288 : x37_3 < (l0_12.length : Int) := dA
           obtain ⟨ad288, A288_0, c288_0, e288, hx288_0, hx288_1, hx288_2, hx288_3, hx288_4, hx288_5, hl288_0, hi288_0⟩ := at_T41 HR0_12.out x37_3 p288 q288
           cases e288
           replace hx288_0 := cB HB hx288_0
           replace hx288_1 := cB HB hx288_1
           replace hx288_2 := cB HB hx288_2
           replace hx288_3 := cB HB hx288_3
           replace hx288_4 := cB HB hx288_4
           replace hx288_5 := cB HB hx288_5
           have HR288_0 := Aside0.mk hi288_0
           have HC288_0 := Aside0.mk hl288_0
           clear hi288_0 hl288_0
           replace p288 := eq_true p288
           replace q288 := eq_true q288
           go_wp2_with (first | ((with_reducible refine gD 6 ?_); refine bxE #[.slice none 0 0, .int .i64 0, .int .i64 0, .int .i64 0, .int .i64 0, .int .i64 0] 41 ?_; intro gb289 hg w40 BK289 hb; have GW289 := gE hg; have GE289 := gE hg; have NB283_289 := nL (g := gb283) hg; have NB289_283 := nG (g := gb283) hg; replace BK283 := kB (g := gb283) hb; replace HB := hB hb; clear hb hg; have hnb41 := NB289_283.out; have hnc41 := NB283_289.out; have hz42 := cz6 BK289) | ((with_reducible refine gC 107 ?_); refine cL (some 42) Try.func107 #[.agg #[.slice A288_0 ((rd_T41 l0_12 x37_3).f0).length c288_0, .int .i64 ((rd_T41 l0_12 x37_3).f1), .int .i64 ((rd_T41 l0_12 x37_3).f2.f0), .int .i64 ((rd_T41 l0_12 x37_3).f2.f1), .int .i64 ((rd_T41 l0_12 x37_3).f2.f2), .int .i64 ((rd_T41 l0_12 x37_3).f2.f3)]] ?_; (with_reducible refine (impl_ObjectOk.calls k3 _ _ ((rd_T41 l0_12 x37_3).f0) ((rd_T41 l0_12 x37_3).f1) ((rd_T41 l0_12 x37_3).f2.f0) ((rd_T41 l0_12 x37_3).f2.f1) ((rd_T41 l0_12 x37_3).f2.f2) ((rd_T41 l0_12 x37_3).f2.f3) _ _ (Kd.C_below HR288_0.out bS) HC288_0.out A34.out).mono ?_); rintro e w43 ⟨rfl, hb⟩; refine ⟨_, rfl, ?_⟩; replace BK283 := kB (g := gb283) hb; replace BK289 := Aside0.mk (blk_below (g := gb289) (o := .cells #[.slice A288_0 ((rd_T41 l0_12 x37_3).f0).length c288_0, .int .i64 ((rd_T41 l0_12 x37_3).f1), .int .i64 ((rd_T41 l0_12 x37_3).f2.f0), .int .i64 ((rd_T41 l0_12 x37_3).f2.f1), .int .i64 ((rd_T41 l0_12 x37_3).f2.f2), .int .i64 ((rd_T41 l0_12 x37_3).f2.f3)] 41 (0, 0)) kS hb); replace HB := hB hb; (try clear hb); (try clear hb2); (try clear hk); (try clear hi)))
           go_ret
           exact ⟨eS, bS⟩
         ·obtain rfl := Option.some.inj H
          go_wp2
          go_ret
          exact ⟨eS, bS⟩

end Go.Proofs.Ytimpejidlnjhlaa.QFnExactPageOk
