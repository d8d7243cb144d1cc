-- Made out of the translation by a program of this session (a changed copy of the print). Not trusted: Lean checks it.
import Derived.Test.YtimpejidlnjhlaaQFnExactPageOkx0
import Derived.Test.YtimpejidlnjhlaaQFnExactPageOkx2
namespace Go.Proofs.Ytimpejidlnjhlaa.QFnExactPageOk
open Go.RowKit Go.Proofs.YtimpejidlnjhlaaW.PrintWords Go.Proofs.YtimpejidlnjhlaaW.PrintLast Go.Proofs.YtimpejidlnjhlaaW.PrintMore
attribute [local go_sem] max2_int min2_int max_two min_two max_three min_three max_four min_four   -- for this text's walks alone
set_option linter.unusedVariables false
set_option linter.unusedSimpArgs false
set_option maxHeartbeats 8000000
set_option maxRecDepth 100000

/-! ### spec_PageOk: function 76 -/
mutual
def spec_PageOk.j0 : Nat → Bool → List Int → Int → Int → Int → Int → List (S166) → Int → Int → Int → Int → Int → List (S107) → List (S41) → Option (Bool)
 | 0, _, _, _, _, _, _, _, _, _, _, _, _, _, _ => none
 | k + 1, x20, x143000, x143001, x143002, x143003, x143004, x143005, x143006, x143007, x143008, x143009, x143010, x143011, x143012 => if x20 = true then (some false) else (spec_PageOk.l0 k 0 x143000 x143001 x143002 x143003 x143004 x143005 x143006 x143007 x143008 x143009 x143010 x143011 x143012)
def spec_PageOk.l0 : Nat → Int → List Int → Int → Int → Int → Int → List (S166) → Int → Int → Int → Int → Int → List (S107) → List (S41) → Option (Bool)
 | 0, _, _, _, _, _, _, _, _, _, _, _, _, _, _ => none
 | k + 1, x3, x143000, x143001, x143002, x143003, x143004, x143005, x143006, x143007, x143008, x143009, x143010, x143011, x143012 => if x3 < (x143011.length : Int) then (if 0 ≤ x3 then ((spec_GraphicsOk.f k ((rd_T107 x143011 x3).f0) ((rd_T107 x143011 x3).f1.f0) ((rd_T107 x143011 x3).f1.f1) ((rd_T107 x143011 x3).f1.f2) ((rd_T107 x143011 x3).f1.f3) ((rd_T107 x143011 x3).f2) ((rd_T107 x143011 x3).f3) ((rd_T107 x143011 x3).f4.f0) ((rd_T107 x143011 x3).f4.f1) ((rd_T107 x143011 x3).f4.f2) ((rd_T107 x143011 x3).f4.f3)).bind fun t145 => (if t145 = true then (spec_PageOk.l0 k (wrap64 (x3 + 1)) x143000 x143001 x143002 x143003 x143004 x143005 x143006 x143007 x143008 x143009 x143010 x143011 x143012) else (some false))) else (none)) else (spec_PageOk.l1 k 0 x143000 x143001 x143002 x143003 x143004 x143005 x143006 x143007 x143008 x143009 x143010 x143011 x143012)
def spec_PageOk.l1 : Nat → Int → List Int → Int → Int → Int → Int → List (S166) → Int → Int → Int → Int → Int → List (S107) → List (S41) → Option (Bool)
 | 0, _, _, _, _, _, _, _, _, _, _, _, _, _, _ => none
 | k + 1, x4, x143000, x143001, x143002, x143003, x143004, x143005, x143006, x143007, x143008, x143009, x143010, x143011, x143012 => if x4 < (x143012.length : Int) then (if 0 ≤ x4 then ((spec_l07Object.f k ((rd_T41 x143012 x4).f0) ((rd_T41 x143012 x4).f1) ((rd_T41 x143012 x4).f2.f0) ((rd_T41 x143012 x4).f2.f1) ((rd_T41 x143012 x4).f2.f2) ((rd_T41 x143012 x4).f2.f3)).bind fun t147 => (if t147 = true then (spec_PageOk.l1 k (wrap64 (x4 + 1)) x143000 x143001 x143002 x143003 x143004 x143005 x143006 x143007 x143008 x143009 x143010 x143011 x143012) else (some false))) else (none)) else (some true)
end
def spec_PageOk.f (k : Nat) (l0_0 : List Int) (a0_1 : Int) (a0_2 : Int) (a0_3 : Int) (a0_4 : Int) (l0_5 : List (S166)) (a0_6 : Int) (a0_7 : Int) (a0_8 : Int) (a0_9 : Int) (a0_10 : Int) (l0_11 : List (S107)) (l0_12 : List (S41)) : Option (Bool) := (spec_GraphicsOk.f k l0_0 a0_1 a0_2 a0_3 a0_4 l0_5 a0_6 a0_7 a0_8 a0_9 a0_10).bind fun t143 => (if t143 = true then (if (l0_11.length : Int) > 4 then (spec_PageOk.j0 k true l0_0 a0_1 a0_2 a0_3 a0_4 l0_5 a0_6 a0_7 a0_8 a0_9 a0_10 l0_11 l0_12) else (spec_PageOk.j0 k (decide ((l0_12.length : Int) > 12)) l0_0 a0_1 a0_2 a0_3 a0_4 l0_5 a0_6 a0_7 a0_8 a0_9 a0_10 l0_11 l0_12)) else (spec_PageOk.j0 k true l0_0 a0_1 a0_2 a0_3 a0_4 l0_5 a0_6 a0_7 a0_8 a0_9 a0_10 l0_11 l0_12))
theorem spec_PageOk.calls (k : Nat) (A0_0 : Option Addr) (c0_0 : Nat) (l0_0 : List Int) (a0_1 : Int) (a0_2 : Int) (a0_3 : Int) (a0_4 : Int) (A0_5 : Option Addr) (c0_5 : Nat) (l0_5 : List (S166)) (a0_6 : Int) (a0_7 : Int) (a0_8 : Int) (a0_9 : Int) (a0_10 : Int) (A0_11 : Option Addr) (c0_11 : Nat) (l0_11 : List (S107)) (A0_12 : Option Addr) (c0_12 : Nat) (l0_12 : List (S41)) (r : Bool) (w : World) (hr0_0 : Kd.C (Kd.int .i64) w A0_0 l0_0.length l0_0) (hc0_0 : l0_0.length ≤ c0_0) (hr0_5 : Kd.C k166 w A0_5 l0_5.length l0_5) (hc0_5 : l0_5.length ≤ c0_5) (hr0_11 : Kd.C k107 w A0_11 l0_11.length l0_11) (hc0_11 : l0_11.length ≤ c0_11) (hr0_12 : Kd.C k41 w A0_12 l0_12.length l0_12) (hc0_12 : l0_12.length ≤ c0_12) (h : spec_PageOk.f k l0_0 a0_1 a0_2 a0_3 a0_4 l0_5 a0_6 a0_7 a0_8 a0_9 a0_10 l0_11 l0_12 = some r) :
  Calls Try.prog 76 #[.agg #[.slice A0_0 l0_0.length c0_0, .int .i64 a0_1, .int .i64 a0_2, .int .i64 a0_3, .int .i64 a0_4, .slice A0_5 l0_5.length c0_5, .int .i64 a0_6, .int .i64 a0_7, .int .i64 a0_8, .int .i64 a0_9, .int .i64 a0_10, .slice A0_11 l0_11.length c0_11, .slice A0_12 l0_12.length c0_12]] w fun e w' => e = .returned (.bool r) ∧ Below w.heap.size w w' := by
 have hu110 := Try.underlying110
 have hu107 := Try.underlying107
 have hu41 := Try.underlying41
 have HR0_0 := Aside0.mk hr0_0
 have HC0_0 := Aside0.mk hc0_0
 clear hr0_0 hc0_0
 have HR0_5 := Aside0.mk hr0_5
 have HC0_5 := Aside0.mk hc0_5
 clear hr0_5 hc0_5
 have HR0_11 := Aside0.mk hr0_11
 have HC0_11 := Aside0.mk hc0_11
 clear hr0_11 hc0_11
 have HR0_12 := Aside0.mk hr0_12
 have HC0_12 := Aside0.mk hc0_12
 clear hr0_12 hc0_12
 have HB := Aside0.mk (Below.refl w.heap.size w)
 have H : ((spec_GraphicsOk.f k l0_0 a0_1 a0_2 a0_3 a0_4 l0_5 a0_6 a0_7 a0_8 a0_9 a0_10).bind fun t143 => (if t143 = true then (if (l0_11.length : Int) > 4 then (spec_PageOk.j0 k true l0_0 a0_1 a0_2 a0_3 a0_4 l0_5 a0_6 a0_7 a0_8 a0_9 a0_10 l0_11 l0_12) else (spec_PageOk.j0 k (decide ((l0_12.length : Int) > 12)) l0_0 a0_1 a0_2 a0_3 a0_4 l0_5 a0_6 a0_7 a0_8 a0_9 a0_10 l0_11 l0_12)) else (spec_PageOk.j0 k true l0_0 a0_1 a0_2 a0_3 a0_4 l0_5 a0_6 a0_7 a0_8 a0_9 a0_10 l0_11 l0_12))) = some r := h
 clear h
 have HC2 := Aside0.mk H
 clear H
 go_enter Try.func76, Try.ntmps76
 go_upto_region 1 with (first | ((with_reducible refine gD 1 ?_); refine bxE #[.slice A0_0 l0_0.length c0_0, .int .i64 a0_1, .int .i64 a0_2, .int .i64 a0_3, .int .i64 a0_4, .slice A0_5 l0_5.length c0_5, .int .i64 a0_6, .int .i64 a0_7, .int .i64 a0_8, .int .i64 a0_9, .int .i64 a0_10, .slice A0_11 l0_11.length c0_11, .slice A0_12 l0_12.length c0_12] 110 ?_; intro gb142 hg w3 BK142 hb; have GW142 := gE hg; have GE142 := gE hg; replace HB := hB hb; clear hb hg))
 (try simp only [Act.put, List.setIfInBounds_toArray, List.set_cons_zero, List.set_cons_succ])
 go_cut [20] (fun v20 wc => ∃ (kq : Nat) (x20_1 : Bool), v20 = .bool x20_1 ∧ Aside0 (spec_PageOk.j0 kq x20_1 l0_0 a0_1 a0_2 a0_3 a0_4 l0_5 a0_6 a0_7 a0_8 a0_9 a0_10 l0_11 l0_12 = some r) ∧ Aside0 (kq ≤ k) ∧ Aside0 (wc.heap[gb142]? = some (.cells #[(.slice A0_0 l0_0.length c0_0), .int .i64 a0_1, .int .i64 a0_2, .int .i64 a0_3, .int .i64 a0_4, (.slice A0_5 l0_5.length c0_5), .int .i64 a0_6, .int .i64 a0_7, .int .i64 a0_8, .int .i64 a0_9, .int .i64 a0_10, (.slice A0_11 l0_11.length c0_11), (.slice A0_12 l0_12.length c0_12)] 110 (0, 0))) ∧ Aside0 (Below w.heap.size w wc))
 case first =>
  have H := HC2.out
  clear HC2
  replace H := bN H
  obtain ⟨t143, A4, H⟩ := H
  by_cases c5 : t143 = true
  ·subst c5
   rw [if_pos rfl] at H
   by_cases c6 : (l0_11.length : Int) > 4
   ·rw [if_pos c6] at H
    have c6b0 : decide (4 < (l0_11.length : Int)) = true := decide_eq_true c6
    have c6b1 : decide (4 < l0_11.length) = true := decide_eq_true (by omega)
    clear c6
    (first | rw [c6b0] | (simp only [i64_w, i32_w]; rw [c6b0]) | skip)
    have H' := Aside0.mk H
    clear H
    have hcz7_0 : w3.cell? ⟨gb142, 0, none⟩ = some (.slice A0_0 l0_0.length c0_0) := (blk_cell BK142.out 0).trans rfl
    have hcz7_1 : w3.cell? ⟨gb142, 1, none⟩ = some (.int .i64 a0_1) := (blk_cell BK142.out 1).trans rfl
    have hcz7_2 : w3.cell? ⟨gb142, 2, none⟩ = some (.int .i64 a0_2) := (blk_cell BK142.out 2).trans rfl
    have hcz7_3 : w3.cell? ⟨gb142, 3, none⟩ = some (.int .i64 a0_3) := (blk_cell BK142.out 3).trans rfl
    have hcz7_4 : w3.cell? ⟨gb142, 4, none⟩ = some (.int .i64 a0_4) := (blk_cell BK142.out 4).trans rfl
    have hcz7_5 : w3.cell? ⟨gb142, 5, none⟩ = some (.slice A0_5 l0_5.length c0_5) := (blk_cell BK142.out 5).trans rfl
    have hcz7_6 : w3.cell? ⟨gb142, 6, none⟩ = some (.int .i64 a0_6) := (blk_cell BK142.out 6).trans rfl
    have hcz7_7 : w3.cell? ⟨gb142, 7, none⟩ = some (.int .i64 a0_7) := (blk_cell BK142.out 7).trans rfl
    have hcz7_8 : w3.cell? ⟨gb142, 8, none⟩ = some (.int .i64 a0_8) := (blk_cell BK142.out 8).trans rfl
    have hcz7_9 : w3.cell? ⟨gb142, 9, none⟩ = some (.int .i64 a0_9) := (blk_cell BK142.out 9).trans rfl
    have hcz7_10 : w3.cell? ⟨gb142, 10, none⟩ = some (.int .i64 a0_10) := (blk_cell BK142.out 10).trans rfl
    have hcz7_11 : w3.cell? ⟨gb142, 11, none⟩ = some (.slice A0_11 l0_11.length c0_11) := (blk_cell BK142.out 11).trans rfl
    have hcz7_12 : w3.cell? ⟨gb142, 12, none⟩ = some (.slice A0_12 l0_12.length c0_12) := (blk_cell BK142.out 12).trans rfl
    have hfz7_0 := blk_frozen BK142.out 0
    have hfz7_1 := blk_frozen BK142.out 1
    have hfz7_2 := blk_frozen BK142.out 2
    have hfz7_3 := blk_frozen BK142.out 3
    have hfz7_4 := blk_frozen BK142.out 4
    have hfz7_5 := blk_frozen BK142.out 5
    have hfz7_6 := blk_frozen BK142.out 6
    have hfz7_7 := blk_frozen BK142.out 7
    have hfz7_8 := blk_frozen BK142.out 8
    have hfz7_9 := blk_frozen BK142.out 9
    have hfz7_10 := blk_frozen BK142.out 10
    have hfz7_11 := blk_frozen BK142.out 11
    have hfz7_12 := blk_frozen BK142.out 12
    go_wp2_with (first | ((with_reducible refine gC 131 ?_); refine cL (some 7) Try.func131 #[.agg #[.slice A0_0 l0_0.length c0_0, .int .i64 a0_1, .int .i64 a0_2, .int .i64 a0_3, .int .i64 a0_4, .slice A0_5 l0_5.length c0_5, .int .i64 a0_6, .int .i64 a0_7, .int .i64 a0_8, .int .i64 a0_9, .int .i64 a0_10]] ?_; (with_reducible refine (spec_GraphicsOk.calls k _ _ l0_0 a0_1 a0_2 a0_3 a0_4 _ _ l0_5 a0_6 a0_7 a0_8 a0_9 a0_10 _ _ (cS (Kd.C_below HR0_0.out HB.out)) HC0_0.out (cS (Kd.C_below HR0_5.out HB.out)) HC0_5.out A4.out).mono ?_); rintro e w8 ⟨rfl, hb⟩; refine ⟨_, rfl, ?_⟩; replace BK142 := kB (g := gb142) hb; replace HB := hB hb; (try clear hb); (try clear hb2); (try clear hk); (try clear hi); have hcz9_0 : w8.cell? ⟨gb142, 0, none⟩ = some (.slice A0_0 l0_0.length c0_0) := (blk_cell BK142.out 0).trans rfl; have hcz9_1 : w8.cell? ⟨gb142, 1, none⟩ = some (.int .i64 a0_1) := (blk_cell BK142.out 1).trans rfl; have hcz9_2 : w8.cell? ⟨gb142, 2, none⟩ = some (.int .i64 a0_2) := (blk_cell BK142.out 2).trans rfl; have hcz9_3 : w8.cell? ⟨gb142, 3, none⟩ = some (.int .i64 a0_3) := (blk_cell BK142.out 3).trans rfl; have hcz9_4 : w8.cell? ⟨gb142, 4, none⟩ = some (.int .i64 a0_4) := (blk_cell BK142.out 4).trans rfl; have hcz9_5 : w8.cell? ⟨gb142, 5, none⟩ = some (.slice A0_5 l0_5.length c0_5) := (blk_cell BK142.out 5).trans rfl; have hcz9_6 : w8.cell? ⟨gb142, 6, none⟩ = some (.int .i64 a0_6) := (blk_cell BK142.out 6).trans rfl; have hcz9_7 : w8.cell? ⟨gb142, 7, none⟩ = some (.int .i64 a0_7) := (blk_cell BK142.out 7).trans rfl; have hcz9_8 : w8.cell? ⟨gb142, 8, none⟩ = some (.int .i64 a0_8) := (blk_cell BK142.out 8).trans rfl; have hcz9_9 : w8.cell? ⟨gb142, 9, none⟩ = some (.int .i64 a0_9) := (blk_cell BK142.out 9).trans rfl; have hcz9_10 : w8.cell? ⟨gb142, 10, none⟩ = some (.int .i64 a0_10) := (blk_cell BK142.out 10).trans rfl; have hcz9_11 : w8.cell? ⟨gb142, 11, none⟩ = some (.slice A0_11 l0_11.length c0_11) := (blk_cell BK142.out 11).trans rfl; have hcz9_12 : w8.cell? ⟨gb142, 12, none⟩ = some (.slice A0_12 l0_12.length c0_12) := (blk_cell BK142.out 12).trans rfl; have hfz9_0 := blk_frozen BK142.out 0; have hfz9_1 := blk_frozen BK142.out 1; have hfz9_2 := blk_frozen BK142.out 2; have hfz9_3 := blk_frozen BK142.out 3; have hfz9_4 := blk_frozen BK142.out 4; have hfz9_5 := blk_frozen BK142.out 5; have hfz9_6 := blk_frozen BK142.out 6; have hfz9_7 := blk_frozen BK142.out 7; have hfz9_8 := blk_frozen BK142.out 8; have hfz9_9 := blk_frozen BK142.out 9; have hfz9_10 := blk_frozen BK142.out 10; have hfz9_11 := blk_frozen BK142.out 11; have hfz9_12 := blk_frozen BK142.out 12))
    go_meet
    case rel => exact ⟨_, (true), fS, H', ⟨by first | omega | exact Nat.le_refl _⟩, ⟨kS⟩, ⟨bS⟩⟩
   ·rw [if_neg c6] at H
    have c6b0 : decide (4 < (l0_11.length : Int)) = false := decide_eq_false c6
    have c6b1 : decide (4 < l0_11.length) = false := decide_eq_false (by omega)
    clear c6
    (first | rw [c6b0] | (simp only [i64_w, i32_w]; rw [c6b0]) | skip)
    have H' := Aside0.mk H
    clear H
    have hcz10_0 : w3.cell? ⟨gb142, 0, none⟩ = some (.slice A0_0 l0_0.length c0_0) := (blk_cell BK142.out 0).trans rfl
    have hcz10_1 : w3.cell? ⟨gb142, 1, none⟩ = some (.int .i64 a0_1) := (blk_cell BK142.out 1).trans rfl
    have hcz10_2 : w3.cell? ⟨gb142, 2, none⟩ = some (.int .i64 a0_2) := (blk_cell BK142.out 2).trans rfl
    have hcz10_3 : w3.cell? ⟨gb142, 3, none⟩ = some (.int .i64 a0_3) := (blk_cell BK142.out 3).trans rfl
    have hcz10_4 : w3.cell? ⟨gb142, 4, none⟩ = some (.int .i64 a0_4) := (blk_cell BK142.out 4).trans rfl
    have hcz10_5 : w3.cell? ⟨gb142, 5, none⟩ = some (.slice A0_5 l0_5.length c0_5) := (blk_cell BK142.out 5).trans rfl
    have hcz10_6 : w3.cell? ⟨gb142, 6, none⟩ = some (.int .i64 a0_6) := (blk_cell BK142.out 6).trans rfl
    have hcz10_7 : w3.cell? ⟨gb142, 7, none⟩ = some (.int .i64 a0_7) := (blk_cell BK142.out 7).trans rfl
    have hcz10_8 : w3.cell? ⟨gb142, 8, none⟩ = some (.int .i64 a0_8) := (blk_cell BK142.out 8).trans rfl
    have hcz10_9 : w3.cell? ⟨gb142, 9, none⟩ = some (.int .i64 a0_9) := (blk_cell BK142.out 9).trans rfl
    have hcz10_10 : w3.cell? ⟨gb142, 10, none⟩ = some (.int .i64 a0_10) := (blk_cell BK142.out 10).trans rfl
    have hcz10_11 : w3.cell? ⟨gb142, 11, none⟩ = some (.slice A0_11 l0_11.length c0_11) := (blk_cell BK142.out 11).trans rfl
    have hcz10_12 : w3.cell? ⟨gb142, 12, none⟩ = some (.slice A0_12 l0_12.length c0_12) := (blk_cell BK142.out 12).trans rfl
    have hfz10_0 := blk_frozen BK142.out 0
    have hfz10_1 := blk_frozen BK142.out 1
    have hfz10_2 := blk_frozen BK142.out 2
    have hfz10_3 := blk_frozen BK142.out 3
    have hfz10_4 := blk_frozen BK142.out 4
    have hfz10_5 := blk_frozen BK142.out 5
    have hfz10_6 := blk_frozen BK142.out 6
    have hfz10_7 := blk_frozen BK142.out 7
    have hfz10_8 := blk_frozen BK142.out 8
    have hfz10_9 := blk_frozen BK142.out 9
    have hfz10_10 := blk_frozen BK142.out 10
    have hfz10_11 := blk_frozen BK142.out 11
    have hfz10_12 := blk_frozen BK142.out 12
    go_wp2_with (first | ((with_reducible refine gC 131 ?_); refine cL (some 7) Try.func131 #[.agg #[.slice A0_0 l0_0.length c0_0, .int .i64 a0_1, .int .i64 a0_2, .int .i64 a0_3, .int .i64 a0_4, .slice A0_5 l0_5.length c0_5, .int .i64 a0_6, .int .i64 a0_7, .int .i64 a0_8, .int .i64 a0_9, .int .i64 a0_10]] ?_; (with_reducible refine (spec_GraphicsOk.calls k _ _ l0_0 a0_1 a0_2 a0_3 a0_4 _ _ l0_5 a0_6 a0_7 a0_8 a0_9 a0_10 _ _ (cS (Kd.C_below HR0_0.out HB.out)) HC0_0.out (cS (Kd.C_below HR0_5.out HB.out)) HC0_5.out A4.out).mono ?_); rintro e w11 ⟨rfl, hb⟩; refine ⟨_, rfl, ?_⟩; replace BK142 := kB (g := gb142) hb; replace HB := hB hb; (try clear hb); (try clear hb2); (try clear hk); (try clear hi); have hcz12_0 : w11.cell? ⟨gb142, 0, none⟩ = some (.slice A0_0 l0_0.length c0_0) := (blk_cell BK142.out 0).trans rfl; have hcz12_1 : w11.cell? ⟨gb142, 1, none⟩ = some (.int .i64 a0_1) := (blk_cell BK142.out 1).trans rfl; have hcz12_2 : w11.cell? ⟨gb142, 2, none⟩ = some (.int .i64 a0_2) := (blk_cell BK142.out 2).trans rfl; have hcz12_3 : w11.cell? ⟨gb142, 3, none⟩ = some (.int .i64 a0_3) := (blk_cell BK142.out 3).trans rfl; have hcz12_4 : w11.cell? ⟨gb142, 4, none⟩ = some (.int .i64 a0_4) := (blk_cell BK142.out 4).trans rfl; have hcz12_5 : w11.cell? ⟨gb142, 5, none⟩ = some (.slice A0_5 l0_5.length c0_5) := (blk_cell BK142.out 5).trans rfl; have hcz12_6 : w11.cell? ⟨gb142, 6, none⟩ = some (.int .i64 a0_6) := (blk_cell BK142.out 6).trans rfl; have hcz12_7 : w11.cell? ⟨gb142, 7, none⟩ = some (.int .i64 a0_7) := (blk_cell BK142.out 7).trans rfl; have hcz12_8 : w11.cell? ⟨gb142, 8, none⟩ = some (.int .i64 a0_8) := (blk_cell BK142.out 8).trans rfl; have hcz12_9 : w11.cell? ⟨gb142, 9, none⟩ = some (.int .i64 a0_9) := (blk_cell BK142.out 9).trans rfl; have hcz12_10 : w11.cell? ⟨gb142, 10, none⟩ = some (.int .i64 a0_10) := (blk_cell BK142.out 10).trans rfl; have hcz12_11 : w11.cell? ⟨gb142, 11, none⟩ = some (.slice A0_11 l0_11.length c0_11) := (blk_cell BK142.out 11).trans rfl; have hcz12_12 : w11.cell? ⟨gb142, 12, none⟩ = some (.slice A0_12 l0_12.length c0_12) := (blk_cell BK142.out 12).trans rfl; have hfz12_0 := blk_frozen BK142.out 0; have hfz12_1 := blk_frozen BK142.out 1; have hfz12_2 := blk_frozen BK142.out 2; have hfz12_3 := blk_frozen BK142.out 3; have hfz12_4 := blk_frozen BK142.out 4; have hfz12_5 := blk_frozen BK142.out 5; have hfz12_6 := blk_frozen BK142.out 6; have hfz12_7 := blk_frozen BK142.out 7; have hfz12_8 := blk_frozen BK142.out 8; have hfz12_9 := blk_frozen BK142.out 9; have hfz12_10 := blk_frozen BK142.out 10; have hfz12_11 := blk_frozen BK142.out 11; have hfz12_12 := blk_frozen BK142.out 12))
    go_meet
    case rel => exact ⟨_, (decide ((l0_12.length : Int) > 12)), fS, H', ⟨by first | omega | exact Nat.le_refl _⟩, ⟨kS⟩, ⟨bS⟩⟩
  ·obtain rfl := Bool.eq_false_iff.mpr c5
   rw [if_neg nF] at H
   have H' := Aside0.mk H
   clear H
   have hcz13_0 : w3.cell? ⟨gb142, 0, none⟩ = some (.slice A0_0 l0_0.length c0_0) := (blk_cell BK142.out 0).trans rfl
   have hcz13_1 : w3.cell? ⟨gb142, 1, none⟩ = some (.int .i64 a0_1) := (blk_cell BK142.out 1).trans rfl
   have hcz13_2 : w3.cell? ⟨gb142, 2, none⟩ = some (.int .i64 a0_2) := (blk_cell BK142.out 2).trans rfl
   have hcz13_3 : w3.cell? ⟨gb142, 3, none⟩ = some (.int .i64 a0_3) := (blk_cell BK142.out 3).trans rfl
   have hcz13_4 : w3.cell? ⟨gb142, 4, none⟩ = some (.int .i64 a0_4) := (blk_cell BK142.out 4).trans rfl
   have hcz13_5 : w3.cell? ⟨gb142, 5, none⟩ = some (.slice A0_5 l0_5.length c0_5) := (blk_cell BK142.out 5).trans rfl
   have hcz13_6 : w3.cell? ⟨gb142, 6, none⟩ = some (.int .i64 a0_6) := (blk_cell BK142.out 6).trans rfl
   have hcz13_7 : w3.cell? ⟨gb142, 7, none⟩ = some (.int .i64 a0_7) := (blk_cell BK142.out 7).trans rfl
   have hcz13_8 : w3.cell? ⟨gb142, 8, none⟩ = some (.int .i64 a0_8) := (blk_cell BK142.out 8).trans rfl
   have hcz13_9 : w3.cell? ⟨gb142, 9, none⟩ = some (.int .i64 a0_9) := (blk_cell BK142.out 9).trans rfl
   have hcz13_10 : w3.cell? ⟨gb142, 10, none⟩ = some (.int .i64 a0_10) := (blk_cell BK142.out 10).trans rfl
   have hcz13_11 : w3.cell? ⟨gb142, 11, none⟩ = some (.slice A0_11 l0_11.length c0_11) := (blk_cell BK142.out 11).trans rfl
   have hcz13_12 : w3.cell? ⟨gb142, 12, none⟩ = some (.slice A0_12 l0_12.length c0_12) := (blk_cell BK142.out 12).trans rfl
   have hfz13_0 := blk_frozen BK142.out 0
   have hfz13_1 := blk_frozen BK142.out 1
   have hfz13_2 := blk_frozen BK142.out 2
   have hfz13_3 := blk_frozen BK142.out 3
   have hfz13_4 := blk_frozen BK142.out 4
   have hfz13_5 := blk_frozen BK142.out 5
   have hfz13_6 := blk_frozen BK142.out 6
   have hfz13_7 := blk_frozen BK142.out 7
   have hfz13_8 := blk_frozen BK142.out 8
   have hfz13_9 := blk_frozen BK142.out 9
   have hfz13_10 := blk_frozen BK142.out 10
   have hfz13_11 := blk_frozen BK142.out 11
   have hfz13_12 := blk_frozen BK142.out 12
   go_wp2_with (first | ((with_reducible refine gC 131 ?_); refine cL (some 7) Try.func131 #[.agg #[.slice A0_0 l0_0.length c0_0, .int .i64 a0_1, .int .i64 a0_2, .int .i64 a0_3, .int .i64 a0_4, .slice A0_5 l0_5.length c0_5, .int .i64 a0_6, .int .i64 a0_7, .int .i64 a0_8, .int .i64 a0_9, .int .i64 a0_10]] ?_; (with_reducible refine (spec_GraphicsOk.calls k _ _ l0_0 a0_1 a0_2 a0_3 a0_4 _ _ l0_5 a0_6 a0_7 a0_8 a0_9 a0_10 _ _ (cS (Kd.C_below HR0_0.out HB.out)) HC0_0.out (cS (Kd.C_below HR0_5.out HB.out)) HC0_5.out A4.out).mono ?_); rintro e w14 ⟨rfl, hb⟩; refine ⟨_, rfl, ?_⟩; replace BK142 := kB (g := gb142) hb; replace HB := hB hb; (try clear hb); (try clear hb2); (try clear hk); (try clear hi)))
   go_meet
   case rel => exact ⟨_, (true), fS, H', ⟨by first | omega | exact Nat.le_refl _⟩, ⟨kS⟩, ⟨bS⟩⟩
 case rest =>
  clear HC2
  try clear c1
  try clear p2
  try clear c5
  try clear c6
  try clear c6b0
  try clear c6b1
  try clear c7
  try clear c13
  try clear hcz10_0
  try clear hcz10_1
  try clear hcz10_10
  try clear hcz10_11
  try clear hcz10_12
  try clear hcz10_2
  try clear hcz10_3
  try clear hcz10_4
  try clear hcz10_5
  try clear hcz10_6
  try clear hcz10_7
  try clear hcz10_8
  try clear hcz10_9
  try clear hcz12_0
  try clear hcz12_1
  try clear hcz12_10
  try clear hcz12_11
  try clear hcz12_12
  try clear hcz12_2
  try clear hcz12_3
  try clear hcz12_4
  try clear hcz12_5
  try clear hcz12_6
  try clear hcz12_7
  try clear hcz12_8
  try clear hcz12_9
  try clear hcz13_0
  try clear hcz13_1
  try clear hcz13_10
  try clear hcz13_11
  try clear hcz13_12
  try clear hcz13_2
  try clear hcz13_3
  try clear hcz13_4
  try clear hcz13_5
  try clear hcz13_6
  try clear hcz13_7
  try clear hcz13_8
  try clear hcz13_9
  try clear hcz7_0
  try clear hcz7_1
  try clear hcz7_10
  try clear hcz7_11
  try clear hcz7_12
  try clear hcz7_2
  try clear hcz7_3
  try clear hcz7_4
  try clear hcz7_5
  try clear hcz7_6
  try clear hcz7_7
  try clear hcz7_8
  try clear hcz7_9
  try clear hcz9_0
  try clear hcz9_1
  try clear hcz9_10
  try clear hcz9_11
  try clear hcz9_12
  try clear hcz9_2
  try clear hcz9_3
  try clear hcz9_4
  try clear hcz9_5
  try clear hcz9_6
  try clear hcz9_7
  try clear hcz9_8
  try clear hcz9_9
  try clear hfz10_0
  try clear hfz10_1
  try clear hfz10_10
  try clear hfz10_11
  try clear hfz10_12
  try clear hfz10_2
  try clear hfz10_3
  try clear hfz10_4
  try clear hfz10_5
  try clear hfz10_6
  try clear hfz10_7
  try clear hfz10_8
  try clear hfz10_9
  try clear hfz12_0
  try clear hfz12_1
  try clear hfz12_10
  try clear hfz12_11
  try clear hfz12_12
  try clear hfz12_2
  try clear hfz12_3
  try clear hfz12_4
  try clear hfz12_5
  try clear hfz12_6
  try clear hfz12_7
  try clear hfz12_8
  try clear hfz12_9
  try clear hfz13_0
  try clear hfz13_1
  try clear hfz13_10
  try clear hfz13_11
  try clear hfz13_12
  try clear hfz13_2
  try clear hfz13_3
  try clear hfz13_4
  try clear hfz13_5
  try clear hfz13_6
  try clear hfz13_7
  try clear hfz13_8
  try clear hfz13_9
  try clear hfz7_0
  try clear hfz7_1
  try clear hfz7_10
  try clear hfz7_11
  try clear hfz7_12
  try clear hfz7_2
  try clear hfz7_3
  try clear hfz7_4
  try clear hfz7_5
  try clear hfz7_6
  try clear hfz7_7
  try clear hfz7_8
  try clear hfz7_9
  try clear hfz9_0
  try clear hfz9_1
  try clear hfz9_10
  try clear hfz9_11
  try clear hfz9_12
  try clear hfz9_2
  try clear hfz9_3
  try clear hfz9_4
  try clear hfz9_5
  try clear hfz9_6
  try clear hfz9_7
  try clear hfz9_8
  try clear hfz9_9
  obtain ⟨kq, x20_1, rfl, HA, HJ1, BK142, HB⟩ := hcut
  cases kq with
  | zero => exact absurd HA.out (by simp [spec_PageOk.j0])
  | succ kj1 =>
   have H := HA.out
   clear HA
   simp only [spec_PageOk.j0] at H
   by_cases c15 : x20_1 = true
   ·subst c15
    rw [if_pos rfl] at H
    obtain rfl := Option.some.inj H
    go_wp2
    go_ret
    exact ⟨eS, bS⟩
   ·obtain rfl := Bool.eq_false_iff.mpr c15
    rw [if_neg nF] at H
    have H' := Aside0.mk H
    clear H
    go_wp2
    go_loopg [3] kj1 (fun kq v3 w' => ∃ (x3_2 : Int), v3 = .int .i64 x3_2 ∧ Aside0 (spec_PageOk.l0 kq x3_2 l0_0 a0_1 a0_2 a0_3 a0_4 l0_5 a0_6 a0_7 a0_8 a0_9 a0_10 l0_11 l0_12 = some r) ∧ Aside0 (kq ≤ kj1) ∧ Aside0 (w'.heap[gb142]? = some (.cells #[(.slice A0_0 l0_0.length c0_0), .int .i64 a0_1, .int .i64 a0_2, .int .i64 a0_3, .int .i64 a0_4, (.slice A0_5 l0_5.length c0_5), .int .i64 a0_6, .int .i64 a0_7, .int .i64 a0_8, .int .i64 a0_9, .int .i64 a0_10, (.slice A0_11 l0_11.length c0_11), (.slice A0_12 l0_12.length c0_12)] 110 (0, 0))) ∧ Aside0 (Below w.heap.size w w'))
    case atStart => exact ⟨(0), fS, H', ⟨Nat.le_refl _⟩, ⟨kS⟩, ⟨bS⟩⟩
    case round =>
     clear H'
     try clear c1
     try clear p2
     try clear c5
     try clear c6
     try clear c6b0
     try clear c6b1
     try clear c7
     try clear c13
     try clear c15
     try clear hcz10_0
     try clear hcz10_1
     try clear hcz10_10
     try clear hcz10_11
     try clear hcz10_12
     try clear hcz10_2
     try clear hcz10_3
     try clear hcz10_4
     try clear hcz10_5
     try clear hcz10_6
     try clear hcz10_7
     try clear hcz10_8
     try clear hcz10_9
     try clear hcz12_0
     try clear hcz12_1
     try clear hcz12_10
     try clear hcz12_11
     try clear hcz12_12
     try clear hcz12_2
     try clear hcz12_3
     try clear hcz12_4
     try clear hcz12_5
     try clear hcz12_6
     try clear hcz12_7
     try clear hcz12_8
     try clear hcz12_9
     try clear hcz13_0
     try clear hcz13_1
     try clear hcz13_10
     try clear hcz13_11
     try clear hcz13_12
     try clear hcz13_2
     try clear hcz13_3
     try clear hcz13_4
     try clear hcz13_5
     try clear hcz13_6
     try clear hcz13_7
     try clear hcz13_8
     try clear hcz13_9
     try clear hcz7_0
     try clear hcz7_1
     try clear hcz7_10
     try clear hcz7_11
     try clear hcz7_12
     try clear hcz7_2
     try clear hcz7_3
     try clear hcz7_4
     try clear hcz7_5
     try clear hcz7_6
     try clear hcz7_7
     try clear hcz7_8
     try clear hcz7_9
     try clear hcz9_0
     try clear hcz9_1
     try clear hcz9_10
     try clear hcz9_11
     try clear hcz9_12
     try clear hcz9_2
     try clear hcz9_3
     try clear hcz9_4
     try clear hcz9_5
     try clear hcz9_6
     try clear hcz9_7
     try clear hcz9_8
     try clear hcz9_9
     try clear hfz10_0
     try clear hfz10_1
     try clear hfz10_10
     try clear hfz10_11
     try clear hfz10_12
     try clear hfz10_2
     try clear hfz10_3
     try clear hfz10_4
     try clear hfz10_5
     try clear hfz10_6
     try clear hfz10_7
     try clear hfz10_8
     try clear hfz10_9
     try clear hfz12_0
     try clear hfz12_1
     try clear hfz12_10
     try clear hfz12_11
     try clear hfz12_12
     try clear hfz12_2
     try clear hfz12_3
     try clear hfz12_4
     try clear hfz12_5
     try clear hfz12_6
     try clear hfz12_7
     try clear hfz12_8
     try clear hfz12_9
     try clear hfz13_0
     try clear hfz13_1
     try clear hfz13_10
     try clear hfz13_11
     try clear hfz13_12
     try clear hfz13_2
     try clear hfz13_3
     try clear hfz13_4
     try clear hfz13_5
     try clear hfz13_6
     try clear hfz13_7
     try clear hfz13_8
     try clear hfz13_9
     try clear hfz7_0
     try clear hfz7_1
     try clear hfz7_10
     try clear hfz7_11
     try clear hfz7_12
     try clear hfz7_2
     try clear hfz7_3
     try clear hfz7_4
     try clear hfz7_5
     try clear hfz7_6
     try clear hfz7_7
     try clear hfz7_8
     try clear hfz7_9
     try clear hfz9_0
     try clear hfz9_1
     try clear hfz9_10
     try clear hfz9_11
     try clear hfz9_12
     try clear hfz9_2
     try clear hfz9_3
     try clear hfz9_4
     try clear hfz9_5
     try clear hfz9_6
     try clear hfz9_7
     try clear hfz9_8
     try clear hfz9_9
     try clear p2
     obtain ⟨x3_2, rfl, HA, HK2, BK142, HB⟩ := hrel
     cases gk with
     | zero => exact absurd HA.out (by simp [spec_PageOk.l0])
     | succ k2 =>
      have H := HA.out
      clear HA
      simp only [spec_PageOk.l0] at H
      by_cases c16 : x3_2 < (l0_11.length : Int)
      ·rw [if_pos c16] at H
       have c16b0 : decide (x3_2 < (l0_11.length : Int)) = true := decide_eq_true c16
       clear c16
       obtain ⟨c17b0, H⟩ := iT H
       replace H := bN H
       obtain ⟨t145, A18, H⟩ := H
       by_cases c19 : t145 = true
       ·subst c19
        rw [if_pos rfl] at H
        have H' := Aside0.mk H
        clear H
        have hcz20_0 : wr.cell? ⟨gb142, 0, none⟩ = some (.slice A0_0 l0_0.length c0_0) := (blk_cell BK142.out 0).trans rfl
        have hcz20_1 : wr.cell? ⟨gb142, 1, none⟩ = some (.int .i64 a0_1) := (blk_cell BK142.out 1).trans rfl
        have hcz20_2 : wr.cell? ⟨gb142, 2, none⟩ = some (.int .i64 a0_2) := (blk_cell BK142.out 2).trans rfl
        have hcz20_3 : wr.cell? ⟨gb142, 3, none⟩ = some (.int .i64 a0_3) := (blk_cell BK142.out 3).trans rfl
        have hcz20_4 : wr.cell? ⟨gb142, 4, none⟩ = some (.int .i64 a0_4) := (blk_cell BK142.out 4).trans rfl
        have hcz20_5 : wr.cell? ⟨gb142, 5, none⟩ = some (.slice A0_5 l0_5.length c0_5) := (blk_cell BK142.out 5).trans rfl
        have hcz20_6 : wr.cell? ⟨gb142, 6, none⟩ = some (.int .i64 a0_6) := (blk_cell BK142.out 6).trans rfl
        have hcz20_7 : wr.cell? ⟨gb142, 7, none⟩ = some (.int .i64 a0_7) := (blk_cell BK142.out 7).trans rfl
        have hcz20_8 : wr.cell? ⟨gb142, 8, none⟩ = some (.int .i64 a0_8) := (blk_cell BK142.out 8).trans rfl
        have hcz20_9 : wr.cell? ⟨gb142, 9, none⟩ = some (.int .i64 a0_9) := (blk_cell BK142.out 9).trans rfl
        have hcz20_10 : wr.cell? ⟨gb142, 10, none⟩ = some (.int .i64 a0_10) := (blk_cell BK142.out 10).trans rfl
        have hcz20_11 : wr.cell? ⟨gb142, 11, none⟩ = some (.slice A0_11 l0_11.length c0_11) := (blk_cell BK142.out 11).trans rfl
        have hcz20_12 : wr.cell? ⟨gb142, 12, none⟩ = some (.slice A0_12 l0_12.length c0_12) := (blk_cell BK142.out 12).trans rfl
        have hfz20_0 := blk_frozen BK142.out 0
        have hfz20_1 := blk_frozen BK142.out 1
        have hfz20_2 := blk_frozen BK142.out 2
        have hfz20_3 := blk_frozen BK142.out 3
        have hfz20_4 := blk_frozen BK142.out 4
        have hfz20_5 := blk_frozen BK142.out 5
        have hfz20_6 := blk_frozen BK142.out 6
        have hfz20_7 := blk_frozen BK142.out 7
        have hfz20_8 := blk_frozen BK142.out 8
        have hfz20_9 := blk_frozen BK142.out 9
        have hfz20_10 := blk_frozen BK142.out 10
        have hfz20_11 := blk_frozen BK142.out 11
        have hfz20_12 := blk_frozen BK142.out 12
        have p144 : 0 ≤ (x3_2 : Int) := dA
        have q144 : x3_2 < (l0_11.length : Int) := dA
        obtain ⟨ad144, A144_0, c144_0, A144_5, c144_5, e144, hx144_0, hx144_1, hx144_2, hx144_3, hx144_4, hx144_5, hx144_6, hx144_7, hx144_8, hx144_9, hx144_10, hl144_0, hi144_0, hl144_5, hi144_5⟩ := at_T107 HR0_11.out x3_2 p144 q144
        cases e144
        replace hx144_0 := cB HB hx144_0
        replace hx144_1 := cB HB hx144_1
        replace hx144_2 := cB HB hx144_2
        replace hx144_3 := cB HB hx144_3
        replace hx144_4 := cB HB hx144_4
        replace hx144_5 := cB HB hx144_5
        replace hx144_6 := cB HB hx144_6
        replace hx144_7 := cB HB hx144_7
        replace hx144_8 := cB HB hx144_8
        replace hx144_9 := cB HB hx144_9
        replace hx144_10 := cB HB hx144_10
        have HR144_0 := Aside0.mk hi144_0
        have HC144_0 := Aside0.mk hl144_0
        clear hi144_0 hl144_0
        have HR144_5 := Aside0.mk hi144_5
        have HC144_5 := Aside0.mk hl144_5
        clear hi144_5 hl144_5
        replace p144 := eq_true p144
        replace q144 := eq_true q144
        go_wp2_with (first | ((with_reducible refine gC 131 ?_); refine cL (some 33) Try.func131 #[.agg #[.slice A144_0 ((rd_T107 l0_11 x3_2).f0).length c144_0, .int .i64 ((rd_T107 l0_11 x3_2).f1.f0), .int .i64 ((rd_T107 l0_11 x3_2).f1.f1), .int .i64 ((rd_T107 l0_11 x3_2).f1.f2), .int .i64 ((rd_T107 l0_11 x3_2).f1.f3), .slice A144_5 ((rd_T107 l0_11 x3_2).f2).length c144_5, .int .i64 ((rd_T107 l0_11 x3_2).f3), .int .i64 ((rd_T107 l0_11 x3_2).f4.f0), .int .i64 ((rd_T107 l0_11 x3_2).f4.f1), .int .i64 ((rd_T107 l0_11 x3_2).f4.f2), .int .i64 ((rd_T107 l0_11 x3_2).f4.f3)]] ?_; (with_reducible refine (spec_GraphicsOk.calls k2 _ _ ((rd_T107 l0_11 x3_2).f0) ((rd_T107 l0_11 x3_2).f1.f0) ((rd_T107 l0_11 x3_2).f1.f1) ((rd_T107 l0_11 x3_2).f1.f2) ((rd_T107 l0_11 x3_2).f1.f3) _ _ ((rd_T107 l0_11 x3_2).f2) ((rd_T107 l0_11 x3_2).f3) ((rd_T107 l0_11 x3_2).f4.f0) ((rd_T107 l0_11 x3_2).f4.f1) ((rd_T107 l0_11 x3_2).f4.f2) ((rd_T107 l0_11 x3_2).f4.f3) _ _ (cS (Kd.C_below HR144_0.out HB.out)) HC144_0.out (cS (Kd.C_below HR144_5.out HB.out)) HC144_5.out A18.out).mono ?_); rintro e w21 ⟨rfl, hb⟩; refine ⟨_, rfl, ?_⟩; replace BK142 := kB (g := gb142) hb; replace HB := hB hb; (try clear hb); (try clear hb2); (try clear hk); (try clear hi)))
        go_roundg k2
        case measure => have := HJ1.out; have := HK2.out; omega
        case rel => exact ⟨(wrap64 (x3_2 + 1)), fS, H', ⟨by have := HJ1.out; have := HK2.out; omega⟩, ⟨kS⟩, ⟨bS⟩⟩
       ·obtain rfl := Bool.eq_false_iff.mpr c19
        rw [if_neg nF] at H
        obtain rfl := Option.some.inj H
        have hcz22_0 : wr.cell? ⟨gb142, 0, none⟩ = some (.slice A0_0 l0_0.length c0_0) := (blk_cell BK142.out 0).trans rfl
        have hcz22_1 : wr.cell? ⟨gb142, 1, none⟩ = some (.int .i64 a0_1) := (blk_cell BK142.out 1).trans rfl
        have hcz22_2 : wr.cell? ⟨gb142, 2, none⟩ = some (.int .i64 a0_2) := (blk_cell BK142.out 2).trans rfl
        have hcz22_3 : wr.cell? ⟨gb142, 3, none⟩ = some (.int .i64 a0_3) := (blk_cell BK142.out 3).trans rfl
        have hcz22_4 : wr.cell? ⟨gb142, 4, none⟩ = some (.int .i64 a0_4) := (blk_cell BK142.out 4).trans rfl
        have hcz22_5 : wr.cell? ⟨gb142, 5, none⟩ = some (.slice A0_5 l0_5.length c0_5) := (blk_cell BK142.out 5).trans rfl
        have hcz22_6 : wr.cell? ⟨gb142, 6, none⟩ = some (.int .i64 a0_6) := (blk_cell BK142.out 6).trans rfl
        have hcz22_7 : wr.cell? ⟨gb142, 7, none⟩ = some (.int .i64 a0_7) := (blk_cell BK142.out 7).trans rfl
        have hcz22_8 : wr.cell? ⟨gb142, 8, none⟩ = some (.int .i64 a0_8) := (blk_cell BK142.out 8).trans rfl
        have hcz22_9 : wr.cell? ⟨gb142, 9, none⟩ = some (.int .i64 a0_9) := (blk_cell BK142.out 9).trans rfl
        have hcz22_10 : wr.cell? ⟨gb142, 10, none⟩ = some (.int .i64 a0_10) := (blk_cell BK142.out 10).trans rfl
        have hcz22_11 : wr.cell? ⟨gb142, 11, none⟩ = some (.slice A0_11 l0_11.length c0_11) := (blk_cell BK142.out 11).trans rfl
        have hcz22_12 : wr.cell? ⟨gb142, 12, none⟩ = some (.slice A0_12 l0_12.length c0_12) := (blk_cell BK142.out 12).trans rfl
        have hfz22_0 := blk_frozen BK142.out 0
        have hfz22_1 := blk_frozen BK142.out 1
        have hfz22_2 := blk_frozen BK142.out 2
        have hfz22_3 := blk_frozen BK142.out 3
        have hfz22_4 := blk_frozen BK142.out 4
        have hfz22_5 := blk_frozen BK142.out 5
        have hfz22_6 := blk_frozen BK142.out 6
        have hfz22_7 := blk_frozen BK142.out 7
        have hfz22_8 := blk_frozen BK142.out 8
        have hfz22_9 := blk_frozen BK142.out 9
        have hfz22_10 := blk_frozen BK142.out 10
        have hfz22_11 := blk_frozen BK142.out 11
        have hfz22_12 := blk_frozen BK142.out 12
        have p144 : 0 ≤ (x3_2 : Int) := dA
        have q144 : x3_2 < (l0_11.length : Int) := dA
        obtain ⟨ad144, A144_0, c144_0, A144_5, c144_5, e144, hx144_0, hx144_1, hx144_2, hx144_3, hx144_4, hx144_5, hx144_6, hx144_7, hx144_8, hx144_9, hx144_10, hl144_0, hi144_0, hl144_5, hi144_5⟩ := at_T107 HR0_11.out x3_2 p144 q144
        cases e144
        replace hx144_0 := cB HB hx144_0
        replace hx144_1 := cB HB hx144_1
        replace hx144_2 := cB HB hx144_2
        replace hx144_3 := cB HB hx144_3
        replace hx144_4 := cB HB hx144_4
        replace hx144_5 := cB HB hx144_5
        replace hx144_6 := cB HB hx144_6
        replace hx144_7 := cB HB hx144_7
        replace hx144_8 := cB HB hx144_8
        replace hx144_9 := cB HB hx144_9
        replace hx144_10 := cB HB hx144_10
        have HR144_0 := Aside0.mk hi144_0
        have HC144_0 := Aside0.mk hl144_0
        clear hi144_0 hl144_0
        have HR144_5 := Aside0.mk hi144_5
        have HC144_5 := Aside0.mk hl144_5
        clear hi144_5 hl144_5
        replace p144 := eq_true p144
        replace q144 := eq_true q144
        go_wp2_with (first | ((with_reducible refine gC 131 ?_); refine cL (some 33) Try.func131 #[.agg #[.slice A144_0 ((rd_T107 l0_11 x3_2).f0).length c144_0, .int .i64 ((rd_T107 l0_11 x3_2).f1.f0), .int .i64 ((rd_T107 l0_11 x3_2).f1.f1), .int .i64 ((rd_T107 l0_11 x3_2).f1.f2), .int .i64 ((rd_T107 l0_11 x3_2).f1.f3), .slice A144_5 ((rd_T107 l0_11 x3_2).f2).length c144_5, .int .i64 ((rd_T107 l0_11 x3_2).f3), .int .i64 ((rd_T107 l0_11 x3_2).f4.f0), .int .i64 ((rd_T107 l0_11 x3_2).f4.f1), .int .i64 ((rd_T107 l0_11 x3_2).f4.f2), .int .i64 ((rd_T107 l0_11 x3_2).f4.f3)]] ?_; (with_reducible refine (spec_GraphicsOk.calls k2 _ _ ((rd_T107 l0_11 x3_2).f0) ((rd_T107 l0_11 x3_2).f1.f0) ((rd_T107 l0_11 x3_2).f1.f1) ((rd_T107 l0_11 x3_2).f1.f2) ((rd_T107 l0_11 x3_2).f1.f3) _ _ ((rd_T107 l0_11 x3_2).f2) ((rd_T107 l0_11 x3_2).f3) ((rd_T107 l0_11 x3_2).f4.f0) ((rd_T107 l0_11 x3_2).f4.f1) ((rd_T107 l0_11 x3_2).f4.f2) ((rd_T107 l0_11 x3_2).f4.f3) _ _ (cS (Kd.C_below HR144_0.out HB.out)) HC144_0.out (cS (Kd.C_below HR144_5.out HB.out)) HC144_5.out A18.out).mono ?_); rintro e w23 ⟨rfl, hb⟩; refine ⟨_, rfl, ?_⟩; replace BK142 := kB (g := gb142) hb; replace HB := hB hb; (try clear hb); (try clear hb2); (try clear hk); (try clear hi)))
        go_ret
        exact ⟨eS, bS⟩
      ·rw [if_neg c16] at H
       have c16b0 : decide (x3_2 < (l0_11.length : Int)) = false := decide_eq_false c16
       clear c16
       have H' := Aside0.mk H
       clear H
       have hcz24_0 : wr.cell? ⟨gb142, 0, none⟩ = some (.slice A0_0 l0_0.length c0_0) := (blk_cell BK142.out 0).trans rfl
       have hcz24_1 : wr.cell? ⟨gb142, 1, none⟩ = some (.int .i64 a0_1) := (blk_cell BK142.out 1).trans rfl
       have hcz24_2 : wr.cell? ⟨gb142, 2, none⟩ = some (.int .i64 a0_2) := (blk_cell BK142.out 2).trans rfl
       have hcz24_3 : wr.cell? ⟨gb142, 3, none⟩ = some (.int .i64 a0_3) := (blk_cell BK142.out 3).trans rfl
       have hcz24_4 : wr.cell? ⟨gb142, 4, none⟩ = some (.int .i64 a0_4) := (blk_cell BK142.out 4).trans rfl
       have hcz24_5 : wr.cell? ⟨gb142, 5, none⟩ = some (.slice A0_5 l0_5.length c0_5) := (blk_cell BK142.out 5).trans rfl
       have hcz24_6 : wr.cell? ⟨gb142, 6, none⟩ = some (.int .i64 a0_6) := (blk_cell BK142.out 6).trans rfl
       have hcz24_7 : wr.cell? ⟨gb142, 7, none⟩ = some (.int .i64 a0_7) := (blk_cell BK142.out 7).trans rfl
       have hcz24_8 : wr.cell? ⟨gb142, 8, none⟩ = some (.int .i64 a0_8) := (blk_cell BK142.out 8).trans rfl
       have hcz24_9 : wr.cell? ⟨gb142, 9, none⟩ = some (.int .i64 a0_9) := (blk_cell BK142.out 9).trans rfl
       have hcz24_10 : wr.cell? ⟨gb142, 10, none⟩ = some (.int .i64 a0_10) := (blk_cell BK142.out 10).trans rfl
       have hcz24_11 : wr.cell? ⟨gb142, 11, none⟩ = some (.slice A0_11 l0_11.length c0_11) := (blk_cell BK142.out 11).trans rfl
       have hcz24_12 : wr.cell? ⟨gb142, 12, none⟩ = some (.slice A0_12 l0_12.length c0_12) := (blk_cell BK142.out 12).trans rfl
       have hfz24_0 := blk_frozen BK142.out 0
       have hfz24_1 := blk_frozen BK142.out 1
       have hfz24_2 := blk_frozen BK142.out 2
       have hfz24_3 := blk_frozen BK142.out 3
       have hfz24_4 := blk_frozen BK142.out 4
       have hfz24_5 := blk_frozen BK142.out 5
       have hfz24_6 := blk_frozen BK142.out 6
       have hfz24_7 := blk_frozen BK142.out 7
       have hfz24_8 := blk_frozen BK142.out 8
       have hfz24_9 := blk_frozen BK142.out 9
       have hfz24_10 := blk_frozen BK142.out 10
       have hfz24_11 := blk_frozen BK142.out 11
       have hfz24_12 := blk_frozen BK142.out 12
       go_wp2
       go_loopg [4] k2 (fun kq v4 w' => ∃ (x4_3 : Int), v4 = .int .i64 x4_3 ∧ Aside0 (spec_PageOk.l1 kq x4_3 l0_0 a0_1 a0_2 a0_3 a0_4 l0_5 a0_6 a0_7 a0_8 a0_9 a0_10 l0_11 l0_12 = some r) ∧ Aside0 (kq ≤ k2) ∧ Aside0 (w'.heap[gb142]? = some (.cells #[(.slice A0_0 l0_0.length c0_0), .int .i64 a0_1, .int .i64 a0_2, .int .i64 a0_3, .int .i64 a0_4, (.slice A0_5 l0_5.length c0_5), .int .i64 a0_6, .int .i64 a0_7, .int .i64 a0_8, .int .i64 a0_9, .int .i64 a0_10, (.slice A0_11 l0_11.length c0_11), (.slice A0_12 l0_12.length c0_12)] 110 (0, 0))) ∧ Aside0 (Below w.heap.size w w'))
       case atStart => exact ⟨(0), fS, H', ⟨Nat.le_refl _⟩, ⟨kS⟩, ⟨bS⟩⟩
       case round =>
        clear H'
        try clear c1
        try clear p1
        try clear q1
        try clear hx1
        try clear p2
        try clear c5
        try clear c6
        try clear c6b0
        try clear c6b1
        try clear p6
        try clear c7
        try clear c13
        try clear c14
        try clear p14
        try clear q14
        try clear hx14
        try clear c15
        try clear c16
        try clear c16b0
        try clear c17
        try clear c17b0
        try clear c19
        try clear hcz10_0
        try clear hcz10_1
        try clear hcz10_10
        try clear hcz10_11
        try clear hcz10_12
        try clear hcz10_2
        try clear hcz10_3
        try clear hcz10_4
        try clear hcz10_5
        try clear hcz10_6
        try clear hcz10_7
        try clear hcz10_8
        try clear hcz10_9
        try clear hcz12_0
        try clear hcz12_1
        try clear hcz12_10
        try clear hcz12_11
        try clear hcz12_12
        try clear hcz12_2
        try clear hcz12_3
        try clear hcz12_4
        try clear hcz12_5
        try clear hcz12_6
        try clear hcz12_7
        try clear hcz12_8
        try clear hcz12_9
        try clear hcz13_0
        try clear hcz13_1
        try clear hcz13_10
        try clear hcz13_11
        try clear hcz13_12
        try clear hcz13_2
        try clear hcz13_3
        try clear hcz13_4
        try clear hcz13_5
        try clear hcz13_6
        try clear hcz13_7
        try clear hcz13_8
        try clear hcz13_9
        try clear hcz20_0
        try clear hcz20_1
        try clear hcz20_10
        try clear hcz20_11
        try clear hcz20_12
        try clear hcz20_2
        try clear hcz20_3
        try clear hcz20_4
        try clear hcz20_5
        try clear hcz20_6
        try clear hcz20_7
        try clear hcz20_8
        try clear hcz20_9
        try clear hcz22_0
        try clear hcz22_1
        try clear hcz22_10
        try clear hcz22_11
        try clear hcz22_12
        try clear hcz22_2
        try clear hcz22_3
        try clear hcz22_4
        try clear hcz22_5
        try clear hcz22_6
        try clear hcz22_7
        try clear hcz22_8
        try clear hcz22_9
        try clear hcz24_0
        try clear hcz24_1
        try clear hcz24_10
        try clear hcz24_11
        try clear hcz24_12
        try clear hcz24_2
        try clear hcz24_3
        try clear hcz24_4
        try clear hcz24_5
        try clear hcz24_6
        try clear hcz24_7
        try clear hcz24_8
        try clear hcz24_9
        try clear hcz7_0
        try clear hcz7_1
        try clear hcz7_10
        try clear hcz7_11
        try clear hcz7_12
        try clear hcz7_2
        try clear hcz7_3
        try clear hcz7_4
        try clear hcz7_5
        try clear hcz7_6
        try clear hcz7_7
        try clear hcz7_8
        try clear hcz7_9
        try clear hcz9_0
        try clear hcz9_1
        try clear hcz9_10
        try clear hcz9_11
        try clear hcz9_12
        try clear hcz9_2
        try clear hcz9_3
        try clear hcz9_4
        try clear hcz9_5
        try clear hcz9_6
        try clear hcz9_7
        try clear hcz9_8
        try clear hcz9_9
        try clear hfz10_0
        try clear hfz10_1
        try clear hfz10_10
        try clear hfz10_11
        try clear hfz10_12
        try clear hfz10_2
        try clear hfz10_3
        try clear hfz10_4
        try clear hfz10_5
        try clear hfz10_6
        try clear hfz10_7
        try clear hfz10_8
        try clear hfz10_9
        try clear hfz12_0
        try clear hfz12_1
        try clear hfz12_10
        try clear hfz12_11
        try clear hfz12_12
        try clear hfz12_2
        try clear hfz12_3
        try clear hfz12_4
        try clear hfz12_5
        try clear hfz12_6
        try clear hfz12_7
        try clear hfz12_8
        try clear hfz12_9
        try clear hfz13_0
        try clear hfz13_1
        try clear hfz13_10
        try clear hfz13_11
        try clear hfz13_12
        try clear hfz13_2
        try clear hfz13_3
        try clear hfz13_4
        try clear hfz13_5
        try clear hfz13_6
        try clear hfz13_7
        try clear hfz13_8
        try clear hfz13_9
        try clear hfz20_0
        try clear hfz20_1
        try clear hfz20_10
        try clear hfz20_11
        try clear hfz20_12
        try clear hfz20_2
        try clear hfz20_3
        try clear hfz20_4
        try clear hfz20_5
        try clear hfz20_6
        try clear hfz20_7
        try clear hfz20_8
        try clear hfz20_9
        try clear hfz22_0
        try clear hfz22_1
        try clear hfz22_10
        try clear hfz22_11
        try clear hfz22_12
        try clear hfz22_2
        try clear hfz22_3
        try clear hfz22_4
        try clear hfz22_5
        try clear hfz22_6
        try clear hfz22_7
        try clear hfz22_8
        try clear hfz22_9
        try clear hfz24_0
        try clear hfz24_1
        try clear hfz24_10
        try clear hfz24_11
        try clear hfz24_12
        try clear hfz24_2
        try clear hfz24_3
        try clear hfz24_4
        try clear hfz24_5
        try clear hfz24_6
        try clear hfz24_7
        try clear hfz24_8
        try clear hfz24_9
        try clear hfz7_0
        try clear hfz7_1
        try clear hfz7_10
        try clear hfz7_11
        try clear hfz7_12
        try clear hfz7_2
        try clear hfz7_3
        try clear hfz7_4
        try clear hfz7_5
        try clear hfz7_6
        try clear hfz7_7
        try clear hfz7_8
        try clear hfz7_9
        try clear hfz9_0
        try clear hfz9_1
        try clear hfz9_10
        try clear hfz9_11
        try clear hfz9_12
        try clear hfz9_2
        try clear hfz9_3
        try clear hfz9_4
        try clear hfz9_5
        try clear hfz9_6
        try clear hfz9_7
        try clear hfz9_8
        try clear hfz9_9
        try clear hx144_0
        try clear hx144_1
        try clear hx144_10
        try clear hx144_2
        try clear hx144_3
        try clear hx144_4
        try clear hx144_5
        try clear hx144_6
        try clear hx144_7
        try clear hx144_8
        try clear hx144_9
        try clear p144
        try clear p2
        try clear q144
        obtain ⟨x4_3, rfl, HA, HK3, BK142, HB⟩ := hrel
        cases gk with
        | zero => exact absurd HA.out (by simp [spec_PageOk.l1])
        | succ k3 =>
         have H := HA.out
         clear HA
         simp only [spec_PageOk.l1] at H
         rcases iD H with ⟨c25b0, H⟩ | ⟨c25b0, H⟩
         ·obtain ⟨c26b0, H⟩ := iT H
          replace H := bN H
          obtain ⟨t147, A27, H⟩ := H
          by_cases c28 : t147 = true
          ·subst c28
           rw [if_pos rfl] at H
           have H' := Aside0.mk H
           clear H
           have hcz29_0 : wr.cell? ⟨gb142, 0, none⟩ = some (.slice A0_0 l0_0.length c0_0) := (blk_cell BK142.out 0).trans rfl
           have hcz29_1 : wr.cell? ⟨gb142, 1, none⟩ = some (.int .i64 a0_1) := (blk_cell BK142.out 1).trans rfl
           have hcz29_2 : wr.cell? ⟨gb142, 2, none⟩ = some (.int .i64 a0_2) := (blk_cell BK142.out 2).trans rfl
           have hcz29_3 : wr.cell? ⟨gb142, 3, none⟩ = some (.int .i64 a0_3) := (blk_cell BK142.out 3).trans rfl
           have hcz29_4 : wr.cell? ⟨gb142, 4, none⟩ = some (.int .i64 a0_4) := (blk_cell BK142.out 4).trans rfl
           have hcz29_5 : wr.cell? ⟨gb142, 5, none⟩ = some (.slice A0_5 l0_5.length c0_5) := (blk_cell BK142.out 5).trans rfl
           have hcz29_6 : wr.cell? ⟨gb142, 6, none⟩ = some (.int .i64 a0_6) := (blk_cell BK142.out 6).trans rfl
           have hcz29_7 : wr.cell? ⟨gb142, 7, none⟩ = some (.int .i64 a0_7) := (blk_cell BK142.out 7).trans rfl
           have hcz29_8 : wr.cell? ⟨gb142, 8, none⟩ = some (.int .i64 a0_8) := (blk_cell BK142.out 8).trans rfl
           have hcz29_9 : wr.cell? ⟨gb142, 9, none⟩ = some (.int .i64 a0_9) := (blk_cell BK142.out 9).trans rfl
           have hcz29_10 : wr.cell? ⟨gb142, 10, none⟩ = some (.int .i64 a0_10) := (blk_cell BK142.out 10).trans rfl
           have hcz29_11 : wr.cell? ⟨gb142, 11, none⟩ = some (.slice A0_11 l0_11.length c0_11) := (blk_cell BK142.out 11).trans rfl
           have hcz29_12 : wr.cell? ⟨gb142, 12, none⟩ = some (.slice A0_12 l0_12.length c0_12) := (blk_cell BK142.out 12).trans rfl
           have hfz29_0 := blk_frozen BK142.out 0
           have hfz29_1 := blk_frozen BK142.out 1
           have hfz29_2 := blk_frozen BK142.out 2
           have hfz29_3 := blk_frozen BK142.out 3
           have hfz29_4 := blk_frozen BK142.out 4
           have hfz29_5 := blk_frozen BK142.out 5
           have hfz29_6 := blk_frozen BK142.out 6
           have hfz29_7 := blk_frozen BK142.out 7
           have hfz29_8 := blk_frozen BK142.out 8
           have hfz29_9 := blk_frozen BK142.out 9
           have hfz29_10 := blk_frozen BK142.out 10
           have hfz29_11 := blk_frozen BK142.out 11
           have hfz29_12 := blk_frozen BK142.out 12
           have p146 : 0 ≤ (x4_3 : Int) := dA
           have q146 : x4_3 < (l0_12.length : Int) := dA
           obtain ⟨ad146, A146_0, c146_0, e146, hx146_0, hx146_1, hx146_2, hx146_3, hx146_4, hx146_5, hl146_0, hi146_0⟩ := at_T41 HR0_12.out x4_3 p146 q146
           cases e146
           replace hx146_0 := cB HB hx146_0
           replace hx146_1 := cB HB hx146_1
           replace hx146_2 := cB HB hx146_2
           replace hx146_3 := cB HB hx146_3
           replace hx146_4 := cB HB hx146_4
           replace hx146_5 := cB HB hx146_5
           have HR146_0 := Aside0.mk hi146_0
           have HC146_0 := Aside0.mk hl146_0
           clear hi146_0 hl146_0
           replace p146 := eq_true p146
           replace q146 := eq_true q146
           go_wp2_with (first | ((with_reducible refine gC 132 ?_); refine cL (some 47) Try.func132 #[.agg #[.slice A146_0 ((rd_T41 l0_12 x4_3).f0).length c146_0, .int .i64 ((rd_T41 l0_12 x4_3).f1), .int .i64 ((rd_T41 l0_12 x4_3).f2.f0), .int .i64 ((rd_T41 l0_12 x4_3).f2.f1), .int .i64 ((rd_T41 l0_12 x4_3).f2.f2), .int .i64 ((rd_T41 l0_12 x4_3).f2.f3)]] ?_; (with_reducible refine (spec_l07Object.calls k3 _ _ ((rd_T41 l0_12 x4_3).f0) ((rd_T41 l0_12 x4_3).f1) ((rd_T41 l0_12 x4_3).f2.f0) ((rd_T41 l0_12 x4_3).f2.f1) ((rd_T41 l0_12 x4_3).f2.f2) ((rd_T41 l0_12 x4_3).f2.f3) _ _ (cS (Kd.C_below HR146_0.out HB.out)) HC146_0.out A27.out).mono ?_); rintro e w30 ⟨rfl, hb⟩; refine ⟨_, rfl, ?_⟩; replace BK142 := kB (g := gb142) hb; replace HB := hB hb; (try clear hb); (try clear hb2); (try clear hk); (try clear hi)))
           go_roundg k3
           case measure => have := HJ1.out; have := HK2.out; have := HK3.out; omega
           case rel => exact ⟨(wrap64 (x4_3 + 1)), fS, H', ⟨by have := HJ1.out; have := HK2.out; have := HK3.out; omega⟩, ⟨kS⟩, ⟨bS⟩⟩
          ·obtain rfl := Bool.eq_false_iff.mpr c28
           rw [if_neg nF] at H
           obtain rfl := Option.some.inj H
           have hcz31_0 : wr.cell? ⟨gb142, 0, none⟩ = some (.slice A0_0 l0_0.length c0_0) := (blk_cell BK142.out 0).trans rfl
           have hcz31_1 : wr.cell? ⟨gb142, 1, none⟩ = some (.int .i64 a0_1) := (blk_cell BK142.out 1).trans rfl
           have hcz31_2 : wr.cell? ⟨gb142, 2, none⟩ = some (.int .i64 a0_2) := (blk_cell BK142.out 2).trans rfl
           have hcz31_3 : wr.cell? ⟨gb142, 3, none⟩ = some (.int .i64 a0_3) := (blk_cell BK142.out 3).trans rfl
           have hcz31_4 : wr.cell? ⟨gb142, 4, none⟩ = some (.int .i64 a0_4) := (blk_cell BK142.out 4).trans rfl
           have hcz31_5 : wr.cell? ⟨gb142, 5, none⟩ = some (.slice A0_5 l0_5.length c0_5) := (blk_cell BK142.out 5).trans rfl
           have hcz31_6 : wr.cell? ⟨gb142, 6, none⟩ = some (.int .i64 a0_6) := (blk_cell BK142.out 6).trans rfl
           have hcz31_7 : wr.cell? ⟨gb142, 7, none⟩ = some (.int .i64 a0_7) := (blk_cell BK142.out 7).trans rfl
           have hcz31_8 : wr.cell? ⟨gb142, 8, none⟩ = some (.int .i64 a0_8) := (blk_cell BK142.out 8).trans rfl
           have hcz31_9 : wr.cell? ⟨gb142, 9, none⟩ = some (.int .i64 a0_9) := (blk_cell BK142.out 9).trans rfl
           have hcz31_10 : wr.cell? ⟨gb142, 10, none⟩ = some (.int .i64 a0_10) := (blk_cell BK142.out 10).trans rfl
           have hcz31_11 : wr.cell? ⟨gb142, 11, none⟩ = some (.slice A0_11 l0_11.length c0_11) := (blk_cell BK142.out 11).trans rfl
           have hcz31_12 : wr.cell? ⟨gb142, 12, none⟩ = some (.slice A0_12 l0_12.length c0_12) := (blk_cell BK142.out 12).trans rfl
           have hfz31_0 := blk_frozen BK142.out 0
           have hfz31_1 := blk_frozen BK142.out 1
           have hfz31_2 := blk_frozen BK142.out 2
           have hfz31_3 := blk_frozen BK142.out 3
           have hfz31_4 := blk_frozen BK142.out 4
           have hfz31_5 := blk_frozen BK142.out 5
           have hfz31_6 := blk_frozen BK142.out 6
           have hfz31_7 := blk_frozen BK142.out 7
           have hfz31_8 := blk_frozen BK142.out 8
           have hfz31_9 := blk_frozen BK142.out 9
           have hfz31_10 := blk_frozen BK142.out 10
           have hfz31_11 := blk_frozen BK142.out 11
           have hfz31_12 := blk_frozen BK142.out 12
           have p146 : 0 ≤ (x4_3 : Int) := dA
           have q146 : x4_3 < (l0_12.length : Int) := dA
           obtain ⟨ad146, A146_0, c146_0, e146, hx146_0, hx146_1, hx146_2, hx146_3, hx146_4, hx146_5, hl146_0, hi146_0⟩ := at_T41 HR0_12.out x4_3 p146 q146
           cases e146
           replace hx146_0 := cB HB hx146_0
           replace hx146_1 := cB HB hx146_1
           replace hx146_2 := cB HB hx146_2
           replace hx146_3 := cB HB hx146_3
           replace hx146_4 := cB HB hx146_4
           replace hx146_5 := cB HB hx146_5
           have HR146_0 := Aside0.mk hi146_0
           have HC146_0 := Aside0.mk hl146_0
           clear hi146_0 hl146_0
           replace p146 := eq_true p146
           replace q146 := eq_true q146
           go_wp2_with (first | ((with_reducible refine gC 132 ?_); refine cL (some 47) Try.func132 #[.agg #[.slice A146_0 ((rd_T41 l0_12 x4_3).f0).length c146_0, .int .i64 ((rd_T41 l0_12 x4_3).f1), .int .i64 ((rd_T41 l0_12 x4_3).f2.f0), .int .i64 ((rd_T41 l0_12 x4_3).f2.f1), .int .i64 ((rd_T41 l0_12 x4_3).f2.f2), .int .i64 ((rd_T41 l0_12 x4_3).f2.f3)]] ?_; (with_reducible refine (spec_l07Object.calls k3 _ _ ((rd_T41 l0_12 x4_3).f0) ((rd_T41 l0_12 x4_3).f1) ((rd_T41 l0_12 x4_3).f2.f0) ((rd_T41 l0_12 x4_3).f2.f1) ((rd_T41 l0_12 x4_3).f2.f2) ((rd_T41 l0_12 x4_3).f2.f3) _ _ (cS (Kd.C_below HR146_0.out HB.out)) HC146_0.out A27.out).mono ?_); rintro e w32 ⟨rfl, hb⟩; refine ⟨_, rfl, ?_⟩; replace BK142 := kB (g := gb142) hb; replace HB := hB hb; (try clear hb); (try clear hb2); (try clear hk); (try clear hi)))
           go_ret
           exact ⟨eS, bS⟩
         ·obtain rfl := Option.some.inj H
          have hcz33_0 : wr.cell? ⟨gb142, 0, none⟩ = some (.slice A0_0 l0_0.length c0_0) := (blk_cell BK142.out 0).trans rfl
          have hcz33_1 : wr.cell? ⟨gb142, 1, none⟩ = some (.int .i64 a0_1) := (blk_cell BK142.out 1).trans rfl
          have hcz33_2 : wr.cell? ⟨gb142, 2, none⟩ = some (.int .i64 a0_2) := (blk_cell BK142.out 2).trans rfl
          have hcz33_3 : wr.cell? ⟨gb142, 3, none⟩ = some (.int .i64 a0_3) := (blk_cell BK142.out 3).trans rfl
          have hcz33_4 : wr.cell? ⟨gb142, 4, none⟩ = some (.int .i64 a0_4) := (blk_cell BK142.out 4).trans rfl
          have hcz33_5 : wr.cell? ⟨gb142, 5, none⟩ = some (.slice A0_5 l0_5.length c0_5) := (blk_cell BK142.out 5).trans rfl
          have hcz33_6 : wr.cell? ⟨gb142, 6, none⟩ = some (.int .i64 a0_6) := (blk_cell BK142.out 6).trans rfl
          have hcz33_7 : wr.cell? ⟨gb142, 7, none⟩ = some (.int .i64 a0_7) := (blk_cell BK142.out 7).trans rfl
          have hcz33_8 : wr.cell? ⟨gb142, 8, none⟩ = some (.int .i64 a0_8) := (blk_cell BK142.out 8).trans rfl
          have hcz33_9 : wr.cell? ⟨gb142, 9, none⟩ = some (.int .i64 a0_9) := (blk_cell BK142.out 9).trans rfl
          have hcz33_10 : wr.cell? ⟨gb142, 10, none⟩ = some (.int .i64 a0_10) := (blk_cell BK142.out 10).trans rfl
          have hcz33_11 : wr.cell? ⟨gb142, 11, none⟩ = some (.slice A0_11 l0_11.length c0_11) := (blk_cell BK142.out 11).trans rfl
          have hcz33_12 : wr.cell? ⟨gb142, 12, none⟩ = some (.slice A0_12 l0_12.length c0_12) := (blk_cell BK142.out 12).trans rfl
          have hfz33_0 := blk_frozen BK142.out 0
          have hfz33_1 := blk_frozen BK142.out 1
          have hfz33_2 := blk_frozen BK142.out 2
          have hfz33_3 := blk_frozen BK142.out 3
          have hfz33_4 := blk_frozen BK142.out 4
          have hfz33_5 := blk_frozen BK142.out 5
          have hfz33_6 := blk_frozen BK142.out 6
          have hfz33_7 := blk_frozen BK142.out 7
          have hfz33_8 := blk_frozen BK142.out 8
          have hfz33_9 := blk_frozen BK142.out 9
          have hfz33_10 := blk_frozen BK142.out 10
          have hfz33_11 := blk_frozen BK142.out 11
          have hfz33_12 := blk_frozen BK142.out 12
          go_wp2
          go_ret
          exact ⟨eS, bS⟩

end Go.Proofs.Ytimpejidlnjhlaa.QFnExactPageOk
