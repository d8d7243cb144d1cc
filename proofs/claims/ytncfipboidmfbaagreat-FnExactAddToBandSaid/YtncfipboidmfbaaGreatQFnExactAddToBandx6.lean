-- Made out of the translation by a program of this session (a changed copy of the print). Not trusted: Lean checks it.
import Derived.Test.YtncfipboidmfbaaGreatQFnExactAddToBandx0
import Derived.Test.YtncfipboidmfbaaGreatQFnExactAddToBandx1
import Derived.Test.YtncfipboidmfbaaGreatQFnExactAddToBandx4
import Derived.Test.YtncfipboidmfbaaGreatQFnExactAddToBandx5
namespace Go.Proofs.YtncfipboidmfbaaGreat.QFnExactAddToBand
open Go.RowKit Go.Proofs.YtncfipboidmfbaaGreatW.PrintWords Go.Proofs.YtncfipboidmfbaaGreatW.PrintLast Go.Proofs.YtncfipboidmfbaaGreatW.PrintMore
attribute [local go_sem] max2_int min2_int max_two min_two max_three min_three max_four min_four   -- for this text's walks alone
set_option linter.unusedVariables false
set_option linter.unusedSimpArgs false
set_option maxHeartbeats 8000000
set_option maxRecDepth 100000

/-! ### impl_paint: function 55 -/
mutual
def impl_paint.l0 : Nat → List (List Int) → Int → Int → Int → List (S151) → Int → Int → Int → Int → Int → Option ((List (List Int)))
 | 0, _, _, _, _, _, _, _, _, _, _ => none
 | k + 1, x0, x1, x11, x12, x646000, x646001, x646002, x646003, x646004, x646005 => if x12 < x11 then ((impl_ObjectRow.f k x646000 x646001 x646002 x646003 x646004 x646005 (wrap64 (x1 + x12))).bind fun t646 => (impl_paint.l1 k x0 x1 x12 x11 x12 t646 (t646.length : Int) 0 x646000 x646001 x646002 x646003 x646004 x646005)) else (some x0)
def impl_paint.l1 : Nat → List (List Int) → Int → Int → Int → Int → List (S146) → Int → Int → List (S151) → Int → Int → Int → Int → Int → Option ((List (List Int)))
 | 0, _, _, _, _, _, _, _, _, _, _, _, _, _, _ => none
 | k + 1, x0, x1, x6, x11, x12, x19, x20, x21, x646000, x646001, x646002, x646003, x646004, x646005 => if x21 < x20 then (if 0 ≤ x21 then (if x21 < (x19.length : Int) then (impl_paint.l2 k x0 x1 x6 ((rd_T146 x19 x21).f0) x11 x12 x19 x20 x21 x646000 x646001 x646002 x646003 x646004 x646005 ((rd_T146 x19 x21).f0) ((rd_T146 x19 x21).f1)) else (none)) else (none)) else (impl_paint.l0 k x0 x1 x11 (wrap64 (x12 + 1)) x646000 x646001 x646002 x646003 x646004 x646005)
def impl_paint.l2 : Nat → List (List Int) → Int → Int → Int → Int → Int → List (S146) → Int → Int → List (S151) → Int → Int → Int → Int → Int → Int → Int → Option ((List (List Int)))
 | 0, _, _, _, _, _, _, _, _, _, _, _, _, _, _, _, _, _ => none
 | k + 1, x0, x1, x6, x9, x11, x12, x19, x20, x21, x646000, x646001, x646002, x646003, x646004, x646005, x651000, x651001 => if x9 < x651001 then (if 0 ≤ x6 then (if x6 < (x0.length : Int) then (if 0 ≤ x9 then (if x9 < ((rd_L1 x0 x6).length : Int) then (impl_paint.l2 k (x0.set (x6 : Int).toNat ((rd_L1 x0 x6).set (x9 : Int).toNat x646001)) x1 x6 (wrap64 (x9 + 1)) x11 x12 x19 x20 x21 x646000 x646001 x646002 x646003 x646004 x646005 x651000 x651001) else (none)) else (none)) else (none)) else (none)) else (impl_paint.l1 k x0 x1 x6 x11 x12 x19 x20 (wrap64 (x21 + 1)) x646000 x646001 x646002 x646003 x646004 x646005)
end
def impl_paint.f (k : Nat) (l0 : List (List Int)) (a1 : Int) (l2_0 : List (S151)) (a2_1 : Int) (a2_2 : Int) (a2_3 : Int) (a2_4 : Int) (a2_5 : Int) : Option ((List (List Int))) := impl_paint.l0 k l0 a1 (l0.length : Int) 0 l2_0 a2_1 a2_2 a2_3 a2_4 a2_5
def impl_paint.T10 : Bool × List (List Nat × List Nat) := (true, [([], []), ([], []), ([0, 1], [0, 1]), ([2], [2]), ([], []), ([], []), ([5], [5]), ([3, 4, 0, 1, 2, 3, 4, 5, 6], [3, 4]), ([7, 6, 0, 1, 2, 3, 4, 5, 6], [6, 7])])
def impl_paint.B10 : List Nat := [0, 0, 3, 7, 0, 0, 32, 127, 255]
theorem impl_paint.tab10 : rtab .any (opsOf Tryz.f55 10) = impl_paint.T10 := by kernel_rfl
theorem impl_paint.bits10 : waitsOk impl_paint.T10.2 impl_paint.B10 = true := by kernel_rfl
theorem impl_paint.calls (k : Nat) (P0_ : Nat → Prop) (u9000_ : Value) (l0 : List (List Int)) (a1 : Int) (A2_0 : Option Addr) (c2_0 : Nat) (l2_0 : List (S151)) (a2_1 : Int) (a2_2 : Int) (a2_3 : Int) (a2_4 : Int) (a2_5 : Int) (r : List (List Int)) (w0 w : World) (hB : Below w0.heap.size w0 w) (ho0 : Kd.S (Kd.slice 3 (Kd.int .i64)) 54 w w0.heap.size P0_ u9000_ l0) (hr2_0 : ∀ W_, Kept w W_ (fun k_ => P0_ k_) → Kd.C k151 W_ A2_0 l2_0.length l2_0) (hc2_0 : l2_0.length ≤ c2_0) (h : impl_paint.f k l0 a1 l2_0 a2_1 a2_2 a2_3 a2_4 a2_5 = some r) :
  Calls Tryz.prog 55 #[u9000_, .int .i64 a1, .agg #[.slice A2_0 l2_0.length c2_0, .int .i64 a2_1, .int .i64 a2_2, .int .i64 a2_3, .int .i64 a2_4, .int .i64 a2_5]] w fun e w' => e = .returned (.tuple #[]) ∧ Kd.S (Kd.slice 3 (Kd.int .i64)) 54 w' w0.heap.size (fun k_ => (P0_ k_ ∨ w.heap.size ≤ k_)) u9000_ r ∧ Below w0.heap.size w0 w' ∧ Kept w w' (fun k_ => P0_ k_) := by
 have hu49 := Tryz.underlying49
 have hu146 := Tryz.underlying146
 have HO0 := aM (show Kd.S (Kd.slice 3 (Kd.int .i64)) 54 w w0.heap.size (fun k_ => (P0_ k_ ∨ w.heap.size ≤ k_)) u9000_ l0 from Kd.S_mono ho0 (fun k_ hk => (.inl hk)))
 have HR2_0 := aM hr2_0
 have HC2_0 := aM hc2_0
 clear hr2_0 hc2_0
 have HK := aM (Kept.refl w (fun k_ => P0_ k_))
 have HW0 := aM hB.size
 have HB := aM hB
 clear hB
 have H := h
 clear h
 unfold impl_paint.f at H
 have H' := aM H
 clear H
 go_enter Tryz.func55, Tryz.ntmps55
 go_wp2_with (first | ((with_reducible refine gD 5 ?_); refine bxE #[.slice A2_0 l2_0.length c2_0, .int .i64 a2_1, .int .i64 a2_2, .int .i64 a2_3, .int .i64 a2_4, .int .i64 a2_5] 49 ?_; intro gb645 hg w4 BK645 hb; have GW645 := aM ((by rw [hg]; exact (by first | exact HK.out.1 | exact (show Kept w _ (fun k_ => P0_ k_) from by repeat (first | (with_reducible first | exact HK.out | apply Kept.alloc | apply Kept.drewN | apply Kept.drew) | exact HK.out)).1) : w.heap.size ≤ gb645)); have GE645 := aM ((by rw [hg]; exact (below_size bS) : w0.heap.size ≤ gb645)); replace HO0 := sB HO0 hb; replace HK := aM (Kept.below (S := (fun k_ => P0_ k_)) (by repeat (first | (with_reducible first | exact HK.out | apply Kept.alloc | apply Kept.drewN | apply Kept.drew) | exact HK.out)) hb); replace HB := hB hb; clear hb hg; obtain ⟨Ao5, co5, eo5⟩ := Kd.S_slice HO0.out; subst eo5))
 go_loopg [12] k (fun kq v12 w' => ∃ (x0_1 : List (List Int)) (x12_1 : Int), v12 = .int .i64 x12_1 ∧ Aside0 (impl_paint.l0 kq x0_1 a1 (l0.length : Int) x12_1 l2_0 a2_1 a2_2 a2_3 a2_4 a2_5 = some r) ∧ Aside0 (kq ≤ k) ∧ Aside0 (Kd.S (Kd.slice 3 (Kd.int .i64)) 54 w' w0.heap.size (fun k_ => (P0_ k_ ∨ w.heap.size ≤ k_)) (.slice Ao5 l0.length co5) x0_1) ∧ Aside0 (w'.heap[gb645]? = some (.cells #[(.slice A2_0 l2_0.length c2_0), .int .i64 a2_1, .int .i64 a2_2, .int .i64 a2_3, .int .i64 a2_4, .int .i64 a2_5] 49 (0, 0))) ∧ Aside0 (Kept w w' (fun k_ => P0_ k_)) ∧ Aside0 (Below w0.heap.size w0 w'))
 case atStart => exact ⟨(l0), (0), fS, H', ⟨Nat.le_refl _⟩, ⟨sS HO0⟩, ⟨kS⟩, ⟨by repeat (first | (with_reducible first | exact HK.out | apply Kept.alloc | apply Kept.drewN | apply Kept.drew | refine Kept.setCell ?_ (.inr GW645.out) _) | exact HK.out)⟩, ⟨bS⟩⟩
 case round =>
  clear H'
  try clear c2
  try clear p2
  try clear c5
  obtain ⟨x0_1, x12_1, rfl, HA, HK1, HO_0, BK645, HK, HB⟩ := hrel
  have hl0_1 := (Kd.S_reads' HO_0.out).1
  rw [hl0_1] at HO_0
  (try simp only [hl0_1])
  (try simp only [hl0_1] at BK645)
  cases gk with
  | zero => exact absurd HA.out (by simp [impl_paint.l0])
  | succ k1 =>
   have H := HA.out
   clear HA
   simp only [impl_paint.l0] at H
   by_cases c6 : x12_1 < (l0.length : Int)
   ·rw [if_pos c6] at H
    have c6b0 : decide (x12_1 < (l0.length : Int)) = true := decide_eq_true c6
    (try (have c6b0_ := c6b0; simp only [hl0_1] at c6b0_))
    clear c6
    replace H := bN H
    obtain ⟨t646, A7, H⟩ := H
    have H' := aM H
    clear H
    have hcz8_0 : wr.cell? ⟨gb645, 0, none⟩ = some (.slice A2_0 l2_0.length c2_0) := (blk_cell BK645.out 0).trans rfl
    have hcz8_1 : wr.cell? ⟨gb645, 1, none⟩ = some (.int .i64 a2_1) := (blk_cell BK645.out 1).trans rfl
    have hcz8_2 : wr.cell? ⟨gb645, 2, none⟩ = some (.int .i64 a2_2) := (blk_cell BK645.out 2).trans rfl
    have hcz8_3 : wr.cell? ⟨gb645, 3, none⟩ = some (.int .i64 a2_3) := (blk_cell BK645.out 3).trans rfl
    have hcz8_4 : wr.cell? ⟨gb645, 4, none⟩ = some (.int .i64 a2_4) := (blk_cell BK645.out 4).trans rfl
    have hcz8_5 : wr.cell? ⟨gb645, 5, none⟩ = some (.int .i64 a2_5) := (blk_cell BK645.out 5).trans rfl
    have hfz8_0 := blk_frozen BK645.out 0
    have hfz8_1 := blk_frozen BK645.out 1
    have hfz8_2 := blk_frozen BK645.out 2
    have hfz8_3 := blk_frozen BK645.out 3
    have hfz8_4 := blk_frozen BK645.out 4
    have hfz8_5 := blk_frozen BK645.out 5
    go_wp2_with (first | ((with_reducible refine gC 118 ?_); refine cL (some 19) Tryz.func118 #[.agg #[.slice A2_0 l2_0.length c2_0, .int .i64 a2_1, .int .i64 a2_2, .int .i64 a2_3, .int .i64 a2_4, .int .i64 a2_5], .int .i64 (wrap64 (a1 + x12_1))] ?_; (with_reducible refine (impl_ObjectRow.calls k1 _ _ l2_0 a2_1 a2_2 a2_3 a2_4 a2_5 (wrap64 (a1 + x12_1)) t646 _ ?side1 ?side2 A7.out).mono ?_); (case side1 => exact Kd.C_kept_now HR2_0.out (by repeat (first | (with_reducible first | exact HK.out | apply Kept.alloc | apply Kept.drewN | apply Kept.drew | refine Kept.setCell ?_ (.inr GW645.out) _) | exact HK.out))); (case side2 => exact HC2_0.out); rintro e w9 ⟨v647, rfl, ho0, hb⟩; refine ⟨_, rfl, ?_⟩; have HO648 := aM (Kd.R_lower (Kd.R_newM (M := fun k_ => (P0_ k_ ∨ w.heap.size ≤ k_)) ho0 (by first | exact HK.out.1 | exact (show Kept w _ (fun k_ => P0_ k_) from by repeat (first | (with_reducible first | exact HK.out | apply Kept.alloc | apply Kept.drewN | apply Kept.drew | refine Kept.setCell ?_ (.inr GW645.out) _) | exact HK.out)).1) (fun k_ h_ => .inr h_)) (below_size bS)); replace HO_0 := sB HO_0 hb; replace BK645 := kB_ gb645 hb; replace HK := aM (Kept.below (S := (fun k_ => P0_ k_)) (by repeat (first | (with_reducible first | exact HK.out | apply Kept.alloc | apply Kept.drewN | apply Kept.drew | refine Kept.setCell ?_ (.inr GW645.out) _) | exact HK.out)) hb); replace HB := hB hb; (try clear hb ho0); obtain ⟨Ao10, co10, eo10⟩ := Kd.R_slice HO648.out; subst eo10))
    go_loopg [21] k1 (fun kq v21 w' => ∃ (x0_2 : List (List Int)) (x21_2 : Int), v21 = .int .i64 x21_2 ∧ Aside0 (impl_paint.l1 kq x0_2 a1 x12_1 (l0.length : Int) x12_1 t646 (t646.length : Int) x21_2 l2_0 a2_1 a2_2 a2_3 a2_4 a2_5 = some r) ∧ Aside0 (kq ≤ k1) ∧ Aside0 (Kd.S (Kd.slice 3 (Kd.int .i64)) 54 w' w0.heap.size (fun k_ => (P0_ k_ ∨ w.heap.size ≤ k_)) (.slice Ao5 x0_1.length co5) x0_2) ∧ Aside0 (Kd.R k146 146 w' w0.heap.size (fun k_ => (P0_ k_ ∨ w.heap.size ≤ k_)) (.slice Ao10 t646.length co10) t646) ∧ Aside0 (w'.heap[gb645]? = some (.cells #[(.slice A2_0 l2_0.length c2_0), .int .i64 a2_1, .int .i64 a2_2, .int .i64 a2_3, .int .i64 a2_4, .int .i64 a2_5] 49 (0, 0))) ∧ Aside0 (Kept w w' (fun k_ => P0_ k_)) ∧ Aside0 (Below w0.heap.size w0 w'))
    case atStart => exact ⟨(x0_1), (0), fS, H', ⟨Nat.le_refl _⟩, ⟨by (try simp only [hl0_1]); (with_reducible repeat (first | apply Kd.S_alloc | apply Kd.S_drewN | apply Kd.S_drew)); exact HO_0.out⟩, ⟨by (try simp only [hl0_1]); (with_reducible repeat (first | apply Kd.R_alloc | apply Kd.R_drewN | apply Kd.R_drew)); exact Kd.R_mono HO648.out (fun _ hk => hk.1)⟩, ⟨by (try simp only [hl0_1]); (with_reducible repeat (first | refine blk_drewN ?_ _ | refine blk_drew ?_ | refine blk_alloc ?_ _)); exact BK645.out⟩, ⟨by repeat (first | (with_reducible first | exact HK.out | apply Kept.alloc | apply Kept.drewN | apply Kept.drew | refine Kept.setCell ?_ (.inr GW645.out) _) | exact HK.out)⟩, ⟨bS⟩⟩
    case round =>
     clear H'
     try clear c1
     try clear c2
     try clear p2
     try clear c5
     try clear c6
     try clear c6b0
     try clear p6
     try clear p2
     obtain ⟨x0_2, x21_2, rfl, HA, HK2, HO_0, HO_19, BK645, HK, HB⟩ := hrel
     have hl0_2 := (Kd.S_reads' HO_0.out).1
     rw [hl0_2] at HO_0
     (try simp only [hl0_2])
     (try simp only [hl0_2] at BK645)
     (try simp only [hl0_2] at HO_19)
     cases gk with
     | zero => exact absurd HA.out (by simp [impl_paint.l1])
     | succ k2 =>
      have H := HA.out
      clear HA
      simp only [impl_paint.l1] at H
      by_cases c11 : x21_2 < (t646.length : Int)
      ·rw [if_pos c11] at H
       have c11b0 : decide (x21_2 < (t646.length : Int)) = true := decide_eq_true c11
       (try (have c11b0_ := c11b0; simp only [hl0_1, hl0_2] at c11b0_))
       clear c11
       by_cases c12 : 0 ≤ x21_2
       ·rw [if_pos c12] at H
        have c12b0 : decide (0 ≤ x21_2) = true := decide_eq_true c12
        clear c12
        by_cases c13 : x21_2 < (t646.length : Int)
        ·rw [if_pos c13] at H
         have c13b0 : decide (x21_2 < (t646.length : Int)) = true := decide_eq_true c13
         (try (have c13b0_ := c13b0; simp only [hl0_1, hl0_2] at c13b0_))
         clear c13
         have H' := aM H
         clear H
         have p649 : 0 ≤ (x21_2 : Int) := dA
         have q649 : x21_2 < (t646.length : Int) := dA
         obtain ⟨ad649, e649, hx649_0, hx649_1⟩ := at_T146 (Kd.R_reads' HO_19.out).2.2 x21_2 p649 q649
         cases e649
         replace p649 := eq_true p649
         replace q649 := eq_true q649
         go_wp2_with (first | ((with_reducible refine gD 8 ?_); refine bxE #[.int .i64 0, .int .i64 0] 146 ?_; intro gb650 hg w14 BK650 hb; have GW650 := aM ((by rw [hg]; exact (by first | exact HK.out.1 | exact (show Kept w _ (fun k_ => P0_ k_) from by repeat (first | (with_reducible first | exact HK.out | apply Kept.alloc | apply Kept.drewN | apply Kept.drew | refine Kept.setCell ?_ (.inr GW645.out) _) | exact HK.out)).1) : w.heap.size ≤ gb650)); have GE650 := aM ((by rw [hg]; exact (below_size bS) : w0.heap.size ≤ gb650)); have NB645_650 := nL_ gb645 hg; have NB650_645 := nG_ gb645 hg; replace HO_0 := sB HO_0 hb; replace HO_19 := aM (Kd.R_below (Kd.R_elderB (rS HO_19) gb650 (Nat.le_of_eq hg.symm)) hb); replace BK645 := kB_ gb645 hb; replace HK := aM (Kept.below (S := (fun k_ => P0_ k_)) (by repeat (first | (with_reducible first | exact HK.out | apply Kept.alloc | apply Kept.drewN | apply Kept.drew | refine Kept.setCell ?_ (.inr GW645.out) _) | exact HK.out)) hb); replace HB := hB hb; clear hb hg; have hnb15 := NB650_645.out; have hnc15 := NB645_650.out; have hcz16_0 := cg0 BK650; have hcz16_1 := cg1 BK650; have hfz16_0 := blk_frozen BK650.out 0; have hfz16_1 := blk_frozen BK650.out 1))
         go_loopg [9] k2 (fun kq v9 w' => ∃ (x0_3 : List (List Int)) (x9_3 : Int), v9 = .int .i64 x9_3 ∧ Aside0 (impl_paint.l2 kq x0_3 a1 x12_1 x9_3 (l0.length : Int) x12_1 t646 (t646.length : Int) x21_2 l2_0 a2_1 a2_2 a2_3 a2_4 a2_5 ((rd_T146 t646 x21_2).f0) ((rd_T146 t646 x21_2).f1) = some r) ∧ Aside0 (kq ≤ k2) ∧ Aside0 (Kd.S (Kd.slice 3 (Kd.int .i64)) 54 w' w0.heap.size (fun k_ => (P0_ k_ ∨ w.heap.size ≤ k_)) (.slice Ao5 x0_2.length co5) x0_3) ∧ Aside0 (Kd.R k146 146 w' w0.heap.size (fun k_ => (P0_ k_ ∨ w.heap.size ≤ k_) ∧ k_ ≠ gb650) (.slice (some ad649) t646.length co10) t646) ∧ Aside0 (w'.heap[gb645]? = some (.cells #[(.slice A2_0 l2_0.length c2_0), .int .i64 a2_1, .int .i64 a2_2, .int .i64 a2_3, .int .i64 a2_4, .int .i64 a2_5] 49 (0, 0))) ∧ Aside0 (w'.heap[gb650]? = some (.cells #[.int .i64 ((rd_T146 t646 x21_2).f0), .int .i64 ((rd_T146 t646 x21_2).f1)] 146 (0, 0))) ∧ Aside0 (Kept w w' (fun k_ => P0_ k_)) ∧ Aside0 (Below w0.heap.size w0 w'))
         case atStart => exact ⟨(x0_2), ((rd_T146 t646 x21_2).f0), fS, H', ⟨Nat.le_refl _⟩, ⟨by (try simp only [hl0_1]); (try simp only [hl0_2]); (with_reducible repeat (first | apply Kd.S_alloc | apply Kd.S_drewN | apply Kd.S_drew)); exact Kd.S_mono (Kd.S_far (p := ⟨gb650, 1, none⟩) (Kd.S_far (p := ⟨gb650, 0, none⟩) (Kd.S_types HO_0.out BK650.out (by decide)) (fun _ hk => hk.2) (.int .i64 ((rd_T146 t646 x21_2).f0))) (fun _ hk => hk.2) (.int .i64 ((rd_T146 t646 x21_2).f1))) (fun _ hk => hk.1)⟩, ⟨by (try simp only [hl0_1]); (try simp only [hl0_2]); (with_reducible repeat (first | apply Kd.R_alloc | apply Kd.R_drewN | apply Kd.R_drew)); exact Kd.R_mono (Kd.R_far (p := ⟨gb650, 1, none⟩) (Kd.R_far (p := ⟨gb650, 0, none⟩) (Kd.R_mono HO_19.out (fun k_ hk => (⟨hk, hk.2⟩ : _ ∧ k_ ≠ gb650))) (fun _ hk => hk.2) (.int .i64 ((rd_T146 t646 x21_2).f0))) (fun _ hk => hk.2) (.int .i64 ((rd_T146 t646 x21_2).f1))) (fun _ hk => ⟨hk.1.1, hk.1.2⟩)⟩, ⟨by (try simp only [hl0_1]); (try simp only [hl0_2]); (with_reducible repeat (first | refine blk_drewN ?_ _ | refine blk_drew ?_ | refine blk_alloc ?_ _)); refine blk_far ?_ NB645_650.out _; (with_reducible repeat (first | refine blk_drewN ?_ _ | refine blk_drew ?_ | refine blk_alloc ?_ _)); refine blk_far ?_ NB645_650.out _; (with_reducible repeat (first | refine blk_drewN ?_ _ | refine blk_drew ?_ | refine blk_alloc ?_ _)); exact BK645.out⟩, ⟨by (try simp only [hl0_1]); (try simp only [hl0_2]); (with_reducible repeat (first | refine blk_drewN ?_ _ | refine blk_drew ?_ | refine blk_alloc ?_ _)); refine blk_put (cs := #[.int .i64 ((rd_T146 t646 x21_2).f0), .int .i64 0]) ?_ 1 _ rfl; (with_reducible repeat (first | refine blk_drewN ?_ _ | refine blk_drew ?_ | refine blk_alloc ?_ _)); refine blk_put (cs := #[.int .i64 0, .int .i64 0]) ?_ 0 _ rfl; (with_reducible repeat (first | refine blk_drewN ?_ _ | refine blk_drew ?_ | refine blk_alloc ?_ _)); exact BK650.out⟩, ⟨by repeat (first | (with_reducible first | exact HK.out | apply Kept.alloc | apply Kept.drewN | apply Kept.drew | refine Kept.setCell ?_ (.inr GW645.out) _ | refine Kept.setCell ?_ (.inr GW650.out) _) | exact HK.out)⟩, ⟨bS⟩⟩
         case round =>
          clear H'
          try clear c1
          try clear c2
          try clear p2
          try clear c5
          try clear c6
          try clear c6b0
          try clear p6
          try clear q6
          try clear hx6
          try clear c11
          try clear c11b0
          try clear c12
          try clear c12b0
          try clear c13
          try clear c13b0
          try clear c15
          try clear hx649_0
          try clear hx649_1
          try clear p2
          try clear p6
          try clear p649
          try clear q649
          obtain ⟨x0_3, x9_3, rfl, HA, HK3, HO_0, HO_19, BK645, BK650, HK, HB⟩ := hrel
          have hl0_3 := (Kd.S_reads' HO_0.out).1
          rw [hl0_3] at HO_0
          (try simp only [hl0_3])
          (try simp only [hl0_3] at BK645)
          (try simp only [hl0_3] at BK650)
          (try simp only [hl0_3] at HO_19)
          cases gk with
          | zero => exact absurd HA.out (by simp [impl_paint.l2])
          | succ k3 =>
           have H := HA.out
           clear HA
           simp only [impl_paint.l2] at H
           rcases iD H with ⟨c17b0, H⟩ | ⟨c17b0, H⟩
           ·obtain ⟨c18b0, H⟩ := iT H
            by_cases c19 : x12_1 < (x0_3.length : Int)
            ·rw [if_pos c19] at H
             have c19b0 : decide (x12_1 < (x0_3.length : Int)) = true := decide_eq_true c19
             (try (have c19b0_ := c19b0; simp only [hl0_1, hl0_2, hl0_3] at c19b0_))
             clear c19
             obtain ⟨c20b0, H⟩ := iT H
             by_cases c21 : x9_3 < ((rd_L1 x0_3 x12_1).length : Int)
             ·rw [if_pos c21] at H
              have c21b0 : decide (x9_3 < ((rd_L1 x0_3 x12_1).length : Int)) = true := decide_eq_true c21
              (try (have c21b0_ := c21b0; simp only [hl0_1, hl0_2, hl0_3] at c21b0_))
              clear c21
              obtain ⟨y652, hy_⟩ : ∃ y_ : List Int, y_ = ((rd_L1 x0_3 x12_1).set (x9_3 : Int).toNat a2_1) := ⟨_, rfl⟩
              replace H : (impl_paint.l2 k3 (x0_3.set (x12_1 : Int).toNat y652) a1 x12_1 (wrap64 (x9_3 + 1)) (l0.length : Int) x12_1 t646 (t646.length : Int) x21_2 l2_0 a2_1 a2_2 a2_3 a2_4 a2_5 ((rd_T146 t646 x21_2).f0) ((rd_T146 t646 x21_2).f1)) = some r := yS
              have Ny652 := aM hy_
              clear hy_
              obtain ⟨y654, hy_⟩ : ∃ y_ : List (List Int), y_ = (x0_3.set (x12_1 : Int).toNat y652) := ⟨_, rfl⟩
              replace H : (impl_paint.l2 k3 y654 a1 x12_1 (wrap64 (x9_3 + 1)) (l0.length : Int) x12_1 t646 (t646.length : Int) x21_2 l2_0 a2_1 a2_2 a2_3 a2_4 a2_5 ((rd_T146 t646 x21_2).f0) ((rd_T146 t646 x21_2).f1)) = some r := yS
              have Ny654 := aM hy_
              clear hy_
              have H' := aM H
              clear H
              have hnb23 := NB650_645.out
              have hnc23 := NB645_650.out
              have hz24 := cz2 BK650
              try go_wp2
              replace HO_0 := aM (Kd.S_drew HO_0.out)
              replace HO_19 := aM (Kd.R_drew HO_19.out)
              replace BK645 := aM (blk_drew BK645.out)
              replace BK650 := aM (blk_drew BK650.out)
              replace HK := aM (Kept.drew HK.out)
              replace HB := aM (below_drew1 HB.out)
              have p651 : 0 ≤ (x12_1 : Int) := dA
              have q651 : x12_1 < (x0_3.length : Int) := dA
              obtain ⟨ad651, A651_0, c651_0, e651, hx651_0, hl651_0, hi651_0⟩ := at_L1 (Kd.S_reads' HO_0.out).2.2 x12_1 p651 q651
              cases e651
              obtain ⟨ce651, hce651, hMe651, hcc651⟩ := Kd.S_get HO_0.out [] x12_1 p651 (by first | exact q651 | exact dA | (have e_ := (Kd.S_reads' HO_0.out).1; omega))
              obtain ⟨ve651_0, rfl, ge651_0⟩ := hMe651
              have hv651_0 := hcc651 0 _ rfl
              rw [Nat.add_zero, show ((Kd.slice 3 (Kd.int .i64))).sz = 1 from rfl, Nat.mul_one] at hv651_0
              replace hv651_0 := Option.some.inj (hv651_0.symm.trans hx651_0)
              rw [hv651_0] at ge651_0
              have HL651_0 := aM (show Kd.R (Kd.int .i64) 3 _ _ _ _ (rd_L1 x0_3 x12_1) from ge651_0)
              clear hv651_0 ge651_0
              have HX651_0 := aM hx651_0
              clear hcc651 hce651
              have HR651_0 := aM hi651_0
              have HC651_0 := aM hl651_0
              clear hi651_0 hl651_0
              replace p651 := eq_true p651
              replace q651 := eq_true q651
              have p22 : 0 ≤ (x9_3 : Int) := dA
              have q22 : (x9_3 : Int) < (((rd_L1 x0_3 x12_1).length : Int) : Int) := dA
              obtain ⟨go22, co22, eo22, gb22, gl22, cl22, HG22⟩ := Kd.R_form HL651_0.out (by omega)
              (first | cases eo22 | (injection eo22 with ea_ en_ ec_; (first | subst ea_ | (injection ea_ with ea_; subst ea_)); subst ec_; clear en_))
              have GB22 := aM gb22
              have GG22 := aM HG22
              clear gb22 gl22 HG22
              have HMgo22 := aM (show (P0_ go22 ∨ w.heap.size ≤ go22) from (HL651_0.out.1 _ rfl).1)
              obtain ⟨hx22_0, hf22_0⟩ := Kd.R_celln 0 HL651_0.out (x9_3 : Int) p22 q22
              replace p22 := eq_true p22
              replace q22 := eq_true q22
              have hq26 : (x12_1 : Int) < (x0_3.length : Int) := (by have h_ : (x12_1 : Int) < ((x0_3.length : Int) : Int) := dA; first | exact h_ | (have e_ := (Kd.S_reads' HO_0.out).1; omega) | simpa only [List.length_set, List.length_set] using h_)
              obtain ⟨oki26, ce26, hcl26, hM26, hcc26, hok26, hbk26⟩ := Kd.S_borrow HO_0.out [] (x12_1 : Int) (dA) hq26
              obtain ⟨ve26_0, rfl, ge26_0⟩ := hM26
              have hv26 := hcc26 0 _ rfl
              rw [Nat.add_zero, show ((Kd.slice 3 (Kd.int .i64))).sz = 1 from rfl, Nat.mul_one] at hv26
              replace hv26 := Option.some.inj (hv26.symm.trans HX651_0.out)
              subst hv26
              clear hcc26 hcl26
              replace ge26_0 := (show Kd.R (Kd.int .i64) 3 _ _ _ _ (rd_L1 x0_3 x12_1) from ge26_0)
              have HP26 := Kd.R_putg ge26_0 (x9_3 : Int) a2_1
              rw [← Ny652.out] at HP26
              have HS26 := hbk26 HP26.2 (fun k_ e_ => by injection e_ with e_; subst e_; exact ge26_0.1 _ rfl) (x' := y652) (Kd.M_row HP26.1)
              rw [← Ny654.out] at HS26
              have HQ26 := aM HS26
              clear HP26 HS26 hbk26 hok26
              refine start_ (n := 9) (S := fun w' => w'.cell? ⟨gb645, 0, none⟩ = some (.slice A2_0 l2_0.length c2_0) ∧ w'.cell? ⟨gb645, 1, none⟩ = some (.int .i64 a2_1) ∧ w'.cell? ⟨gb645, 2, none⟩ = some (.int .i64 a2_2) ∧ w'.cell? ⟨gb645, 3, none⟩ = some (.int .i64 a2_3) ∧ w'.cell? ⟨gb645, 4, none⟩ = some (.int .i64 a2_4) ∧ w'.cell? ⟨gb645, 5, none⟩ = some (.int .i64 a2_5) ∧ w'.cell? (ad651.add (x12_1).toNat) = some (.slice (some ⟨go22, 0, none⟩) (rd_L1 x0_3 x12_1).length c651_0)) (ds := [8]) (mB 9 0) (by kernel_rfl) rfl rfl (cx6 BK645 hx651_0) (fun hHeld => ?_); refine with_tabW impl_paint.tab10 impl_paint.bits10 (fun HT_ HW_ => ?_)
              generalize wr.drew = w25 at HO_0 HO_19 BK645 BK650 HK HB GG22 HL651_0 HQ26 HR651_0 HX651_0 hf22_0 hx22_0 hx651_0 hHeld ⊢
              refine pU 0 (some 33) (mB 9 1) ?_
              refine pU 1 (some 34) (mB 9 3) ?_
              refine pU 2 (some 35) (mB 9 7) ?_
              refine pU 4 (some 37) (mB 9 23) ?_
              refine pU 5 (some 38) (mB 9 55) ?_
              refine tK 3 (some 36) (mB 9 63) ?_
              refine tK 6 (some 39) (mB 9 127) ?_
              refine pU 7 (some 40) (mB 9 255) ?_
              refine last_ (i := 8) (N := none) (mB 9 511) rfl rfl (one_of HT_.out (by kernel_rfl)) (by decide) (fun K hK => ?_)
              refine skip_ (w1 := ?_) (by rfl) rfl ?_ ?_
              rotate_left
              ·go_simp
               rfl
              refine hK.out _ _ ?_
              clear hK K
              refine done_ (done_of HT_.out (by kernel_rfl)) ?_
              try go_wp2
              (try simp only [← hl0_3])
              go_roundg k3
              case measure => have := HK1.out; have := HK2.out; have := HK3.out; omega
              case rel => exact ⟨(y654), (wrap64 (x9_3 + 1)), fS, H', ⟨by have := HK1.out; have := HK2.out; have := HK3.out; omega⟩, ⟨by (try simp only [hl0_1]); (try simp only [hl0_2]); (try simp only [hl0_3]); (with_reducible repeat (first | apply Kd.S_alloc | apply Kd.S_drewN | apply Kd.S_drew)); exact HQ26.out⟩, ⟨by (try simp only [hl0_1]); (try simp only [hl0_2]); (try simp only [hl0_3]); (with_reducible repeat (first | apply Kd.R_alloc | apply Kd.R_drewN | apply Kd.R_drew)); exact Kd.R_mono (Kd.R_far (p := ⟨go22, (x9_3 : Int).toNat, none⟩) (Kd.R_types HO_19.out GG22.out (by decide)) (fun _ hk => hk.2) (.int .i64 a2_1)) (fun _ hk => ⟨hk.1.1, hk.1.2⟩)⟩, ⟨by (try simp only [hl0_1]); (try simp only [hl0_2]); (try simp only [hl0_3]); (with_reducible repeat (first | refine blk_drewN ?_ _ | refine blk_drew ?_ | refine blk_alloc ?_ _)); refine blk_far ?_ (by have h_ := Kd.R_ne HL651_0.out BK645.out (by decide); intro e_; exact h_ (by rw [e_]; rfl)) _; (with_reducible repeat (first | refine blk_drewN ?_ _ | refine blk_drew ?_ | refine blk_alloc ?_ _)); exact BK645.out⟩, ⟨by (try simp only [hl0_1]); (try simp only [hl0_2]); (try simp only [hl0_3]); (with_reducible repeat (first | refine blk_drewN ?_ _ | refine blk_drew ?_ | refine blk_alloc ?_ _)); refine blk_far ?_ (by have h_ := Kd.R_ne HL651_0.out BK650.out (by decide); intro e_; exact h_ (by rw [e_]; rfl)) _; (with_reducible repeat (first | refine blk_drewN ?_ _ | refine blk_drew ?_ | refine blk_alloc ?_ _)); exact BK650.out⟩, ⟨by repeat (first | (with_reducible first | exact HK.out | apply Kept.alloc | apply Kept.drewN | apply Kept.drew | refine Kept.setCell ?_ HMgo22.out _ | refine Kept.setCell ?_ (.inr GW645.out) _ | refine Kept.setCell ?_ (.inr GW650.out) _) | exact HK.out)⟩, ⟨by repeat (first | (with_reducible first | exact HB.out | apply below_alloc | apply pw_below_drewN | apply below_drew1 | refine below_set ?_ GB22.out | refine below_set ?_ GE645.out | refine below_set ?_ GE650.out) | exact HB.out)⟩⟩
             ·rw [if_neg c21] at H
              exact absurd H (by simp)
            ·rw [if_neg c19] at H
             exact absurd H (by simp)
           ·have H' := aM H
            clear H
            have hnb28 := NB650_645.out
            have hnc28 := NB645_650.out
            have hz29 := cz2 BK650
            go_wp2
            (try simp only [← hl0_2, ← hl0_3])
            go_roundg k3
            case measure => have := HK1.out; have := HK2.out; have := HK3.out; omega
            case rel => exact ⟨(x0_3), (wrap64 (x21_2 + 1)), fS, H', ⟨by have := HK1.out; have := HK2.out; have := HK3.out; omega⟩, ⟨by (try simp only [hl0_1]); (try simp only [hl0_2]); (try simp only [hl0_3]); (with_reducible repeat (first | apply Kd.S_alloc | apply Kd.S_drewN | apply Kd.S_drew)); exact HO_0.out⟩, ⟨by (try simp only [hl0_1]); (try simp only [hl0_2]); (try simp only [hl0_3]); (with_reducible repeat (first | apply Kd.R_alloc | apply Kd.R_drewN | apply Kd.R_drew)); exact Kd.R_mono HO_19.out (fun _ hk => hk.1)⟩, ⟨by (try simp only [hl0_1]); (try simp only [hl0_2]); (try simp only [hl0_3]); (with_reducible repeat (first | refine blk_drewN ?_ _ | refine blk_drew ?_ | refine blk_alloc ?_ _)); exact BK645.out⟩, ⟨by repeat (first | (with_reducible first | exact HK.out | apply Kept.alloc | apply Kept.drewN | apply Kept.drew | refine Kept.setCell ?_ (.inr GW645.out) _ | refine Kept.setCell ?_ (.inr GW650.out) _) | exact HK.out)⟩, ⟨bS⟩⟩
        ·rw [if_neg c13] at H
         exact absurd H (by simp)
       ·rw [if_neg c12] at H
        exact absurd H (by simp)
      ·rw [if_neg c11] at H
       have c11b0 : decide (x21_2 < (t646.length : Int)) = false := decide_eq_false c11
       (try (have c11b0_ := c11b0; simp only [hl0_1, hl0_2] at c11b0_))
       clear c11
       have H' := aM H
       clear H
       go_wp2
       (try simp only [← hl0_1, ← hl0_2])
       go_roundg k2
       case measure => have := HK1.out; have := HK2.out; omega
       case rel => exact ⟨(x0_2), (wrap64 (x12_1 + 1)), fS, H', ⟨by have := HK1.out; have := HK2.out; omega⟩, ⟨by (try simp only [hl0_1]); (try simp only [hl0_2]); (with_reducible repeat (first | apply Kd.S_alloc | apply Kd.S_drewN | apply Kd.S_drew)); exact HO_0.out⟩, ⟨by (try simp only [hl0_1]); (try simp only [hl0_2]); (with_reducible repeat (first | refine blk_drewN ?_ _ | refine blk_drew ?_ | refine blk_alloc ?_ _)); exact BK645.out⟩, ⟨by repeat (first | (with_reducible first | exact HK.out | apply Kept.alloc | apply Kept.drewN | apply Kept.drew | refine Kept.setCell ?_ (.inr GW645.out) _) | exact HK.out)⟩, ⟨bS⟩⟩
   ·rw [if_neg c6] at H
    have c6b0 : decide (x12_1 < (l0.length : Int)) = false := decide_eq_false c6
    (try (have c6b0_ := c6b0; simp only [hl0_1] at c6b0_))
    clear c6
    obtain rfl := Option.some.inj H
    go_wp2
    first | go_end0 | ((try simp only [Exit.inBlock, Exit.then]); refine bodyPost_ret (results_none rfl _ _ _) rfl ?_)
    exact ⟨eS, (by first | exact (sS HO_0) | (simp only [hl0_1]; exact (sS HO_0))), bS, by repeat (first | (with_reducible first | exact HK.out | apply Kept.alloc | apply Kept.drewN | apply Kept.drew | refine Kept.setCell ?_ (.inr GW645.out) _) | exact HK.out)⟩

/-! ### impl_MergeBand: function 18 -/
def impl_MergeBand.l0 : Nat → List (S49) → Int → Int → Int → Int → List (List Int) → List (S49) → Option (Int × Int × (List (List Int)) × (List (S49)))
 | 0, _, _, _, _, _, _, _ => none
 | k + 1, x13, x14, x15, x666000, x666001, x666002, x666003 => if x15 < x14 then (if 0 ≤ x15 then (if x15 < (x13.length : Int) then ((impl_paint.f k x666002 (wrap64 (x666000 * x666001)) ((rd_T49 x13 x15).f0) ((rd_T49 x13 x15).f1) ((rd_T49 x13 x15).f2.f0) ((rd_T49 x13 x15).f2.f1) ((rd_T49 x13 x15).f2.f2) ((rd_T49 x13 x15).f2.f3)).bind fun t669 => (impl_MergeBand.l0 k x13 x14 (wrap64 (x15 + 1)) x666000 x666001 t669 x666003)) else (none)) else (none)) else (some (x666000, x666001, x666002, ([] : List (S49))))
def impl_MergeBand.f (k : Nat) (a0_0 : Int) (a0_1 : Int) (l0_2 : List (List Int)) (l0_3 : List (S49)) : Option (Int × Int × (List (List Int)) × (List (S49))) := (impl_copyBand.f k a0_0 a0_1 l0_2 l0_3).bind fun bt657 => ((impl_BandOk.f k a0_0 a0_1 l0_2 l0_3).bind fun t666 => (if t666 = true then (impl_MergeBand.l0 k bt657.2.2.2 (bt657.2.2.2.length : Int) 0 bt657.1 bt657.2.1 bt657.2.2.1 bt657.2.2.2) else (some (bt657.1, bt657.2.1, bt657.2.2.1, bt657.2.2.2))))
theorem impl_MergeBand.calls (k : Nat) (a0_0 : Int) (a0_1 : Int) (A0_2 : Option Addr) (c0_2 : Nat) (l0_2 : List (List Int)) (A0_3 : Option Addr) (c0_3 : Nat) (l0_3 : List (S49)) (r1 : Int) (r2 : Int) (r3 : List (List Int)) (r4 : List (S49)) (w : World) (hr0_2 : Kd.C (Kd.slice 3 (Kd.int .i64)) w A0_2 l0_2.length l0_2) (hc0_2 : l0_2.length ≤ c0_2) (hr0_3 : Kd.C k49 w A0_3 l0_3.length l0_3) (hc0_3 : l0_3.length ≤ c0_3) (h : impl_MergeBand.f k a0_0 a0_1 l0_2 l0_3 = some (r1, r2, r3, r4)) :
  Calls Tryz.prog 18 #[.agg #[.int .i64 a0_0, .int .i64 a0_1, .slice A0_2 l0_2.length c0_2, .slice A0_3 l0_3.length c0_3]] w fun e w' => ∃ v2_ v3_ : Value, e = .returned (.agg #[.int .i64 r1, .int .i64 r2, v2_, v3_]) ∧ Kd.S (Kd.slice 3 (Kd.int .i64)) 54 w' w.heap.size (fun _ => True) v2_ r3 ∧ Kd.S k49 49 w' w.heap.size (fun _ => True) v3_ r4 ∧ Below w.heap.size w w' := by
 have hu30 := Tryz.underlying30
 have hu49 := Tryz.underlying49
 have HR0_2 := aM hr0_2
 have HC0_2 := aM hc0_2
 clear hr0_2 hc0_2
 have HR0_3 := aM hr0_3
 have HC0_3 := aM hc0_3
 clear hr0_3 hc0_3
 have HB := aM (Below.refl w.heap.size w)
 have H := h
 clear h
 unfold impl_MergeBand.f at H
 replace H := bN H
 obtain ⟨⟨t657, t658, t659, t662⟩, A2, H⟩ := H
 replace H := bN H
 obtain ⟨t666, A3, H⟩ := H
 by_cases c4 : t666 = true
 ·subst c4
  rw [if_pos rfl] at H
  have H' := aM H
  clear H
  go_enter Tryz.func18, Tryz.ntmps18
  go_wp2_with (first | ((with_reducible refine gD 1 ?_); refine bxE #[.int .i64 a0_0, .int .i64 a0_1, .slice A0_2 l0_2.length c0_2, .slice A0_3 l0_3.length c0_3] 30 ?_; intro gb655 hg w5 BK655 hb; have GW655 := gE hg; have GE655 := gE hg; replace HB := hB hb; clear hb hg) | ((with_reducible refine gD 2 ?_); refine bxE #[.int .i64 0, .int .i64 0, .slice none 0 0, .slice none 0 0] 30 ?_; intro gb656 hg w6 BK656 hb; have GW656 := gE hg; have GE656 := gE hg; have NB655_656 := nL_ gb655 hg; have NB656_655 := nG_ gb655 hg; replace BK655 := kB_ gb655 hb; replace HB := hB hb; clear hb hg; have hnb7 := NB655_656.out; have hnc7 := NB656_655.out; have hcz8_0 := cg0 BK655; have hcz8_1 := cg1 BK655; have hcz8_2 := cg2 BK655; have hcz8_3 := cg3 BK655; have hfz8_0 := blk_frozen BK655.out 0; have hfz8_1 := blk_frozen BK655.out 1; have hfz8_2 := blk_frozen BK655.out 2; have hfz8_3 := blk_frozen BK655.out 3) | ((with_reducible refine gC 54 ?_); refine cM (some 7) Tryz.func54 (impl_copyBand.calls k a0_0 a0_1 _ _ l0_2 _ _ l0_3 t657 t658 t659 t662 _ (cC HR0_2 HB) HC0_2.out (cC HR0_3 HB) HC0_3.out A2.out) ?_; rintro e w9 ⟨v660, v663, rfl, ho0, ho1, hb⟩; refine ⟨_, rfl, ?_⟩; have HO661 := aM (Kd.S_lower ho0 (below_size bS)); have HO664 := aM (Kd.S_lower ho1 (below_size bS)); replace BK655 := kB_ gb655 hb; replace BK656 := kB_ gb656 hb; replace HB := hB hb; (try clear hb ho0 ho1)) | ((with_reducible refine gD 3 ?_); refine bxE #[.int .i64 0, .int .i64 0, .slice none 0 0, .slice none 0 0] 30 ?_; intro gb665 hg w10 BK665 hb; have GW665 := gE hg; have GE665 := gE hg; have NB655_665 := nL_ gb655 hg; have NB665_655 := nG_ gb655 hg; have NB656_665 := nL_ gb656 hg; have NB665_656 := nG_ gb656 hg; replace HO661 := sB HO661 hb; replace HO664 := sB HO664 hb; replace BK655 := kB_ gb655 hb; replace BK656 := kB_ gb656 hb; replace HB := hB hb; clear hb hg; have hnb11 := NB665_655.out; have hnc11 := NB655_665.out; have hnb12 := NB665_656.out; have hnc12 := NB656_665.out; have hcz13_0 := cg0 BK665; have hcz13_1 := cg1 BK665; have hcz13_2 := cg2 BK665; have hcz13_3 := cg3 BK665; have hfz13_0 := blk_frozen BK665.out 0; have hfz13_1 := blk_frozen BK665.out 1; have hfz13_2 := blk_frozen BK665.out 2; have hfz13_3 := blk_frozen BK665.out 3; obtain ⟨Ao14, co14, eo14⟩ := Kd.S_slice HO661.out; subst eo14; obtain ⟨Ao15, co15, eo15⟩ := Kd.S_slice HO664.out; subst eo15; have hcz16_0 := cg0 BK655; have hcz16_1 := cg1 BK655; have hcz16_2 := cg2 BK655; have hcz16_3 := cg3 BK655; have hfz16_0 := blk_frozen BK655.out 0; have hfz16_1 := blk_frozen BK655.out 1; have hfz16_2 := blk_frozen BK655.out 2; have hfz16_3 := blk_frozen BK655.out 3) | ((with_reducible refine gC 46 ?_); refine cM (some 9) Tryz.func46 (impl_BandOk.calls k a0_0 a0_1 _ _ l0_2 _ _ l0_3 _ _ (Kd.C_below HR0_2.out bS) HC0_2.out (Kd.C_below HR0_3.out bS) HC0_3.out A3.out) ?_; rintro e w17 ⟨rfl, hb⟩; refine ⟨_, rfl, ?_⟩; replace HO661 := aM (Kd.S_below (by exact sG HO661 BK665) hb); replace HO664 := aM (Kd.S_below (by exact sG HO664 BK665) hb); replace BK655 := kB_ gb655 hb; replace BK656 := kB_ gb656 hb; replace BK665 := kO gb665 #[.int .i64 t657, .int .i64 t658, .slice Ao14 t659.length co14, .slice Ao15 t662.length co15] 30 hb; replace HB := hB hb; (try clear hb hk); have hcz18_0 := cg0 BK665; have hcz18_1 := cg1 BK665; have hcz18_2 := cg2 BK665; have hcz18_3 := cg3 BK665; have hfz18_0 := blk_frozen BK665.out 0; have hfz18_1 := blk_frozen BK665.out 1; have hfz18_2 := blk_frozen BK665.out 2; have hfz18_3 := blk_frozen BK665.out 3))
  go_loopg [15] k (fun kq v15 w' => ∃ (x15_1 : Int) (x666002_1 : List (List Int)) (u666002 : Value), v15 = .int .i64 x15_1 ∧ Aside0 (impl_MergeBand.l0 kq t662 (t662.length : Int) x15_1 t657 t658 x666002_1 t662 = some (r1, r2, r3, r4)) ∧ Aside0 (kq ≤ k) ∧ Aside0 (Kd.S k49 49 w' w.heap.size (fun _ => True) (.slice Ao15 t662.length co15) t662) ∧ Aside0 (Kd.S (Kd.slice 3 (Kd.int .i64)) 54 w' w.heap.size (fun _ => True) u666002 x666002_1) ∧ Aside0 (Kd.S k49 49 w' w.heap.size (fun _ => True) (.slice Ao15 t662.length co15) t662) ∧ Aside0 (w'.heap[gb655]? = some (.cells #[.int .i64 a0_0, .int .i64 a0_1, (.slice A0_2 l0_2.length c0_2), (.slice A0_3 l0_3.length c0_3)] 30 (0, 0))) ∧ Aside0 (w'.heap[gb656]? = some (.cells #[.int .i64 0, .int .i64 0, (.slice none 0 0), (.slice none 0 0)] 30 (0, 0))) ∧ Aside0 (w'.heap[gb665]? = some (.cells #[.int .i64 t657, .int .i64 t658, u666002, (.slice Ao15 t662.length co15)] 30 (0, 0))) ∧ Aside0 (Below w.heap.size w w'))
  case atStart => exact ⟨(0), (t659), (.slice Ao14 t659.length co14), fS, H', ⟨Nat.le_refl _⟩, ⟨sS HO664⟩, ⟨sS HO661⟩, ⟨sS HO664⟩, ⟨kS⟩, ⟨kS⟩, ⟨kS⟩, ⟨bS⟩⟩
  case round =>
   clear H'
   try clear c1
   try clear p2
   try clear c4
   try clear c5
   try clear c7
   try clear c11
   try clear c12
   try clear c18
   obtain ⟨x15_1, x666002_1, u666002, rfl, HA, HK1, HO_13, HO_666002, HO_666003, BK655, BK656, BK665, HB⟩ := hrel
   cases gk with
   | zero => exact absurd HA.out (by simp [impl_MergeBand.l0])
   | succ k1 =>
    have H := HA.out
    clear HA
    simp only [impl_MergeBand.l0] at H
    rcases iD H with ⟨c19b0, H⟩ | ⟨c19b0, H⟩
    ·obtain ⟨c20b0, H⟩ := iT H
     obtain ⟨c21b0, H⟩ := iT H
     replace H := bN H
     obtain ⟨t669, A22, H⟩ := H
     have H' := aM H
     clear H
     have p667 : 0 ≤ (x15_1 : Int) := dA
     have q667 : x15_1 < (t662.length : Int) := dA
     obtain ⟨ad667, A667_0, c667_0, e667, hx667_0, hx667_1, hx667_2, hx667_3, hx667_4, hx667_5, hl667_0, hi667_0⟩ := at_T49 (Kd.S_reads' HO_13.out).2.2 x15_1 p667 q667
     cases e667
     obtain ⟨ce667, hce667, hMe667, hcc667⟩ := Kd.S_get HO_13.out z49 x15_1 p667 (by first | exact q667 | exact dA | (have e_ := (Kd.S_reads' HO_13.out).1; omega))
     obtain ⟨ve667_0, rfl, ge667_0⟩ := k49_openM hMe667
     have hv667_0 := hcc667 0 _ rfl
     rw [Nat.add_zero] at hv667_0
     replace hv667_0 := Option.some.inj (hv667_0.symm.trans hx667_0)
     rw [hv667_0] at ge667_0
     have HL667_0 := aM (show Kd.R k151 151 _ _ _ _ ((rd_T49 t662 x15_1).f0) from ge667_0)
     clear hv667_0 ge667_0
     clear hcc667 hce667
     have HR667_0 := aM hi667_0
     have HC667_0 := aM hl667_0
     clear hi667_0 hl667_0
     replace p667 := eq_true p667
     replace q667 := eq_true q667
     go_wp2_with (first | ((with_reducible refine gD 5 ?_); refine bxE #[.slice none 0 0, .int .i64 0, .int .i64 0, .int .i64 0, .int .i64 0, .int .i64 0] 49 ?_; intro gb668 hg w23 BK668 hb; have GW668 := gE hg; have GE668 := gE hg; have NB655_668 := nL_ gb655 hg; have NB668_655 := nG_ gb655 hg; have NB656_668 := nL_ gb656 hg; have NB668_656 := nG_ gb656 hg; have NB665_668 := nL_ gb665 hg; have NB668_665 := nG_ gb665 hg; replace HO_13 := aM (Kd.S_below (Kd.S_elderB (sS HO_13) gb668 (Nat.le_of_eq hg.symm)) hb); replace HO_666002 := sB HO_666002 hb; replace HO_666003 := aM (Kd.S_below (Kd.S_elderB (sS HO_666003) gb668 (Nat.le_of_eq hg.symm)) hb); replace HL667_0 := aM (Kd.R_below (rS HL667_0) hb); replace BK655 := kB_ gb655 hb; replace BK656 := kB_ gb656 hb; replace BK665 := kB_ gb665 hb; replace HR667_0 := aM (Kd.C_below (by repeat (first | (with_reducible exact HR667_0.out) | (with_reducible refine Kd.C_alloc ?_ _) | (with_reducible refine Kd.C_drewN ?_ _) | (with_reducible refine Kd.C_drew ?_) | exact HR667_0.out)) hb); replace HB := hB hb; clear hb hg; have hnb24 := NB668_655.out; have hnc24 := NB655_668.out; have hnb25 := NB668_656.out; have hnc25 := NB656_668.out; have hnb26 := NB668_665.out; have hnc26 := NB665_668.out; have hz27 := cz6 BK668) | ((with_reducible refine gate_store (t := 49) (p := 5) rfl ?_); refine store_event (t := 49) (p := 5) (v := ?vo_w28) (w1 := ((((((w23.setCell ⟨gb668, 0, none⟩ (.slice A667_0 ((rd_T49 t662 x15_1).f0).length c667_0)).setCell ⟨gb668, 1, none⟩ (.int .i64 ((rd_T49 t662 x15_1).f1))).setCell ⟨gb668, 2, none⟩ (.int .i64 ((rd_T49 t662 x15_1).f2.f0))).setCell ⟨gb668, 3, none⟩ (.int .i64 ((rd_T49 t662 x15_1).f2.f1))).setCell ⟨gb668, 4, none⟩ (.int .i64 ((rd_T49 t662 x15_1).f2.f2))).setCell ⟨gb668, 5, none⟩ (.int .i64 ((rd_T49 t662 x15_1).f2.f3)))) ?hg ?ho ?hn ?hr ?_; (case ho => rfl); (case hg => rfl); (case hn => rfl); (case hr => first | (go_simp; done) | (go_simp; rfl)); intro w28 hw; replace HO_13 : Aside0 (Kd.S k49 49 w28 w.heap.size (fun k_ => k_ ≠ gb668) (.slice (some ad667) t662.length co15) t662) := ⟨(by rw [hw]; exact (by exact sT (Kd.S_mono (Kd.S_far (p := ⟨gb668, 5, none⟩) (Kd.S_far (p := ⟨gb668, 4, none⟩) (Kd.S_far (p := ⟨gb668, 3, none⟩) (Kd.S_far (p := ⟨gb668, 2, none⟩) (Kd.S_far (p := ⟨gb668, 1, none⟩) (Kd.S_far (p := ⟨gb668, 0, none⟩) (Kd.S_mono HO_13.out (fun k_ hk => (⟨hk, hk.2⟩ : _ ∧ k_ ≠ gb668))) (fun _ hk => hk.2) (.slice A667_0 ((rd_T49 t662 x15_1).f0).length c667_0)) (fun _ hk => hk.2) (.int .i64 ((rd_T49 t662 x15_1).f1))) (fun _ hk => hk.2) (.int .i64 ((rd_T49 t662 x15_1).f2.f0))) (fun _ hk => hk.2) (.int .i64 ((rd_T49 t662 x15_1).f2.f1))) (fun _ hk => hk.2) (.int .i64 ((rd_T49 t662 x15_1).f2.f2))) (fun _ hk => hk.2) (.int .i64 ((rd_T49 t662 x15_1).f2.f3))) (fun _ hk => hk.1.2))))⟩; replace HO_666002 : Aside0 (Kd.S (Kd.slice 3 (Kd.int .i64)) 54 w28 w.heap.size (fun _ => True) u666002 x666002_1) := ⟨(by rw [hw]; exact (by exact sT (Kd.S_mono (Kd.S_far (p := ⟨gb668, 5, none⟩) (Kd.S_far (p := ⟨gb668, 4, none⟩) (Kd.S_far (p := ⟨gb668, 3, none⟩) (Kd.S_far (p := ⟨gb668, 2, none⟩) (Kd.S_far (p := ⟨gb668, 1, none⟩) (Kd.S_far (p := ⟨gb668, 0, none⟩) (Kd.S_types HO_666002.out BK668.out (by decide)) (fun _ hk => hk.2) (.slice A667_0 ((rd_T49 t662 x15_1).f0).length c667_0)) (fun _ hk => hk.2) (.int .i64 ((rd_T49 t662 x15_1).f1))) (fun _ hk => hk.2) (.int .i64 ((rd_T49 t662 x15_1).f2.f0))) (fun _ hk => hk.2) (.int .i64 ((rd_T49 t662 x15_1).f2.f1))) (fun _ hk => hk.2) (.int .i64 ((rd_T49 t662 x15_1).f2.f2))) (fun _ hk => hk.2) (.int .i64 ((rd_T49 t662 x15_1).f2.f3))) (fun _ hk => trivial))))⟩; replace HO_666003 : Aside0 (Kd.S k49 49 w28 w.heap.size (fun k_ => k_ ≠ gb668) (.slice (some ad667) t662.length co15) t662) := ⟨(by rw [hw]; exact (by exact sT (Kd.S_mono (Kd.S_far (p := ⟨gb668, 5, none⟩) (Kd.S_far (p := ⟨gb668, 4, none⟩) (Kd.S_far (p := ⟨gb668, 3, none⟩) (Kd.S_far (p := ⟨gb668, 2, none⟩) (Kd.S_far (p := ⟨gb668, 1, none⟩) (Kd.S_far (p := ⟨gb668, 0, none⟩) (Kd.S_mono HO_666003.out (fun k_ hk => (⟨hk, hk.2⟩ : _ ∧ k_ ≠ gb668))) (fun _ hk => hk.2) (.slice A667_0 ((rd_T49 t662 x15_1).f0).length c667_0)) (fun _ hk => hk.2) (.int .i64 ((rd_T49 t662 x15_1).f1))) (fun _ hk => hk.2) (.int .i64 ((rd_T49 t662 x15_1).f2.f0))) (fun _ hk => hk.2) (.int .i64 ((rd_T49 t662 x15_1).f2.f1))) (fun _ hk => hk.2) (.int .i64 ((rd_T49 t662 x15_1).f2.f2))) (fun _ hk => hk.2) (.int .i64 ((rd_T49 t662 x15_1).f2.f3))) (fun _ hk => hk.1.2))))⟩; replace HL667_0 : Aside0 (Kd.R k151 151 w28 w.heap.size (fun k_ => some k_ ≠ (.slice (some ad667) t662.length co15 : Value).ownBlock) (.slice A667_0 ((rd_T49 t662 x15_1).f0).length c667_0) ((rd_T49 t662 x15_1).f0)) := ⟨(by rw [hw]; exact (by exact rT (Kd.R_mono (Kd.R_far (p := ⟨gb668, 5, none⟩) (Kd.R_far (p := ⟨gb668, 4, none⟩) (Kd.R_far (p := ⟨gb668, 3, none⟩) (Kd.R_far (p := ⟨gb668, 2, none⟩) (Kd.R_far (p := ⟨gb668, 1, none⟩) (Kd.R_far (p := ⟨gb668, 0, none⟩) (Kd.R_types HL667_0.out BK668.out (by decide)) (fun _ hk => hk.2) (.slice A667_0 ((rd_T49 t662 x15_1).f0).length c667_0)) (fun _ hk => hk.2) (.int .i64 ((rd_T49 t662 x15_1).f1))) (fun _ hk => hk.2) (.int .i64 ((rd_T49 t662 x15_1).f2.f0))) (fun _ hk => hk.2) (.int .i64 ((rd_T49 t662 x15_1).f2.f1))) (fun _ hk => hk.2) (.int .i64 ((rd_T49 t662 x15_1).f2.f2))) (fun _ hk => hk.2) (.int .i64 ((rd_T49 t662 x15_1).f2.f3))) (fun _ hk => hk.1.2))))⟩; replace BK655 : Aside0 (w28.heap[gb655]? = some (.cells #[.int .i64 a0_0, .int .i64 a0_1, .slice A0_2 l0_2.length c0_2, .slice A0_3 l0_3.length c0_3] 30 (0, 0))) := ⟨(by rw [hw]; exact kS)⟩; replace BK656 : Aside0 (w28.heap[gb656]? = some (.cells #[.int .i64 0, .int .i64 0, .slice none 0 0, .slice none 0 0] 30 (0, 0))) := ⟨(by rw [hw]; exact kS)⟩; replace BK665 : Aside0 (w28.heap[gb665]? = some (.cells #[.int .i64 t657, .int .i64 t658, u666002, .slice (some ad667) t662.length co15] 30 (0, 0))) := ⟨(by rw [hw]; exact kS)⟩; replace BK668 : Aside0 (w28.heap[gb668]? = some (.cells #[.slice A667_0 ((rd_T49 t662 x15_1).f0).length c667_0, .int .i64 ((rd_T49 t662 x15_1).f1), .int .i64 ((rd_T49 t662 x15_1).f2.f0), .int .i64 ((rd_T49 t662 x15_1).f2.f1), .int .i64 ((rd_T49 t662 x15_1).f2.f2), .int .i64 ((rd_T49 t662 x15_1).f2.f3)] 49 (0, 0))) := ⟨(by rw [hw]; exact kS)⟩; replace HB : Aside0 (Below w.heap.size w w28) := ⟨(by rw [hw]; exact bS)⟩; clear hw; have hnb29 := NB665_655.out; have hnc29 := NB655_665.out; have hnb30 := NB665_656.out; have hnc30 := NB656_665.out; have hz31 := cz4 BK665; have hz32 := cz6 BK668; obtain ⟨Ao33, co33, eo33⟩ := Kd.S_slice HO_666002.out; subst eo33) | ((with_reducible refine gC 55 ?_); refine cL (some 27) Tryz.func55 #[.slice Ao33 x666002_1.length co33, .int .i64 (wrap64 (t657 * t658)), .agg #[.slice A667_0 ((rd_T49 t662 x15_1).f0).length c667_0, .int .i64 ((rd_T49 t662 x15_1).f1), .int .i64 ((rd_T49 t662 x15_1).f2.f0), .int .i64 ((rd_T49 t662 x15_1).f2.f1), .int .i64 ((rd_T49 t662 x15_1).f2.f2), .int .i64 ((rd_T49 t662 x15_1).f2.f3)]] ?_; (with_reducible refine (impl_paint.calls k1 (fun k_ => w.heap.size ≤ k_ ∧ ∃ q_, q_ ∈ 54 :: (Kd.slice 3 (Kd.int .i64)).E ∧ ∃ c_, w28.heap[k_]? = some (.cells c_ q_ (0, 0))) (.slice Ao33 x666002_1.length co33) x666002_1 (wrap64 (t657 * t658)) _ _ ((rd_T49 t662 x15_1).f0) ((rd_T49 t662 x15_1).f1) ((rd_T49 t662 x15_1).f2.f0) ((rd_T49 t662 x15_1).f2.f1) ((rd_T49 t662 x15_1).f2.f2) ((rd_T49 t662 x15_1).f2.f3) t669 w _ ?side1 ?side2 ?side3 ?side4 A22.out).mono ?_); (case side1 => repeat (first | (with_reducible first | exact HB.out | apply below_alloc | apply pw_below_drewN | apply below_drew1 | refine below_set ?_ GE655.out | refine below_set ?_ GE656.out | refine below_set ?_ GE665.out | refine below_set ?_ GE668.out) | exact HB.out)); (case side2 => (with_reducible repeat (first | apply Kd.S_alloc | apply Kd.S_drewN | apply Kd.S_drew)); exact Kd.S_mono (Kd.S_bound HO_666002.out) (fun k_ h_ => ⟨h_.2.1, h_.2.2.2⟩)); (case side3 => exact Kd.C_kept_own ((R_not (fun k_ => w.heap.size ≤ k_ ∧ ∃ q_, q_ ∈ 54 :: (Kd.slice 3 (Kd.int .i64)).E ∧ ∃ c_, w28.heap[k_]? = some (.cells c_ q_ (0, 0))) HL667_0.out (fun k_ h_ e_ => typed_two h_.2.2.2 e_.2 (by decide)))) (fun k_ hk_ hs_ => (hk_.2) hs_)); (case side4 => exact HC667_0.out); rintro e w34 ⟨rfl, hy0, hb, hkp⟩; refine ⟨_, rfl, ?_⟩; replace HO_13 := aM (Kd.S_mono (ok' := fun k_ => k_ ≠ gb668) (Kd.S_keptB ((S_not (fun k_ => w.heap.size ≤ k_ ∧ ∃ q_, q_ ∈ 54 :: (Kd.slice 3 (Kd.int .i64)).E ∧ ∃ c_, w28.heap[k_]? = some (.cells c_ q_ (0, 0))) HO_13.out (fun k_ h_ e_ => typed_two h_.2.2.2 e_.2 (by decide)))) hkp (fun k_ hk_ hs_ => (hk_.2) hs_)) (fun k_ hk_ => hk_.1.1)); replace HO_666002 := aM (Kd.S_mono hy0 (fun _ _ => trivial)); replace HO_666003 := aM (Kd.S_mono (ok' := fun k_ => k_ ≠ gb668) (Kd.S_keptB ((S_not (fun k_ => w.heap.size ≤ k_ ∧ ∃ q_, q_ ∈ 54 :: (Kd.slice 3 (Kd.int .i64)).E ∧ ∃ c_, w28.heap[k_]? = some (.cells c_ q_ (0, 0))) HO_666003.out (fun k_ h_ e_ => typed_two h_.2.2.2 e_.2 (by decide)))) hkp (fun k_ hk_ hs_ => (hk_.2) hs_)) (fun k_ hk_ => hk_.1.1)); replace BK655 := bM (g := gb655) hkp; replace BK656 := bM (g := gb656) hkp; replace BK665 := bM (g := gb665) hkp; replace BK668 := bM (g := gb668) hkp; replace HB := aM (hb); clear HL667_0; (try clear hb hkp hy0)))
     go_roundg k1
     case measure => have := HK1.out; omega
     case rel => exact ⟨(wrap64 (x15_1 + 1)), (t669), (.slice Ao33 x666002_1.length co33), fS, H', ⟨by have := HK1.out; omega⟩, ⟨by exact sT (Kd.S_mono HO_13.out (fun _ hk => trivial))⟩, ⟨sS HO_666002⟩, ⟨by exact sT (Kd.S_mono HO_666003.out (fun _ hk => trivial))⟩, ⟨kS⟩, ⟨kS⟩, ⟨kS⟩, ⟨bS⟩⟩
    ·obtain ⟨rfl, rfl, rfl, rfl⟩ := sI4 H
     have hnb35 := NB665_655.out
     have hnc35 := NB655_665.out
     have hnb36 := NB665_656.out
     have hnc36 := NB656_665.out
     have hz37 := cz4 BK665
     have hnb38 := NB656_655.out
     have hnc38 := NB655_656.out
     have hz39 := cz4 BK656
     obtain ⟨Ao40, co40, eo40⟩ := Kd.S_slice HO_666002.out
     subst eo40
     go_wp2
     refine bodyPost_ret (results_cell_row rfl _ _ gb656 30 #[.int .i64 t657, .int .i64 t658, .slice Ao40 x666002_1.length co40, .slice none 0 0] (0, 0) _ rfl kS Tryz.underlying30 rfl (by kernel_rfl)) rfl ?_
     exact ⟨_, _, eS, by exact sT (Kd.S_mono (Kd.S_far (p := ⟨gb656, 3, none⟩) (Kd.S_far (p := ⟨gb656, 2, none⟩) (Kd.S_far (p := ⟨gb656, 1, none⟩) (Kd.S_far (p := ⟨gb656, 0, none⟩) (Kd.S_far (p := ⟨gb665, 3, none⟩) (Kd.S_types (Kd.S_types HO_666002.out BK665.out (by decide)) BK656.out (by decide)) (fun _ hk => hk.1.2) (.slice none 0 0)) (fun _ hk => hk.2) (.int .i64 t657)) (fun _ hk => hk.2) (.int .i64 t658)) (fun _ hk => hk.2) (.slice Ao40 x666002_1.length co40)) (fun _ hk => hk.2) (.slice none 0 0)) (fun _ hk => trivial)), by first | exact Kd.S_nil _ _ _ _ _ | exact Kd.N_nil _ _ _ _ _ | exact Kd.V_nil _ _ _ _ _ | exact Kd.Q_nil _ _ _ _ _ | exact Kd.R_nil _ _ _ _ _, bS⟩
 ·obtain rfl := Bool.eq_false_iff.mpr c4
  rw [if_neg nF] at H
  obtain ⟨rfl, rfl, rfl, rfl⟩ := sI4 H
  go_enter Tryz.func18, Tryz.ntmps18
  go_wp2_with (first | ((with_reducible refine gD 1 ?_); refine bxE #[.int .i64 a0_0, .int .i64 a0_1, .slice A0_2 l0_2.length c0_2, .slice A0_3 l0_3.length c0_3] 30 ?_; intro gb655 hg w41 BK655 hb; have GW655 := gE hg; have GE655 := gE hg; replace HB := hB hb; clear hb hg) | ((with_reducible refine gD 2 ?_); refine bxE #[.int .i64 0, .int .i64 0, .slice none 0 0, .slice none 0 0] 30 ?_; intro gb656 hg w42 BK656 hb; have GW656 := gE hg; have GE656 := gE hg; have NB655_656 := nL_ gb655 hg; have NB656_655 := nG_ gb655 hg; replace BK655 := kB_ gb655 hb; replace HB := hB hb; clear hb hg; have hnb43 := NB655_656.out; have hnc43 := NB656_655.out; have hz44 := cz4 BK655) | ((with_reducible refine gC 54 ?_); refine cM (some 7) Tryz.func54 (impl_copyBand.calls k a0_0 a0_1 _ _ l0_2 _ _ l0_3 t657 t658 t659 t662 _ (cC HR0_2 HB) HC0_2.out (cC HR0_3 HB) HC0_3.out A2.out) ?_; rintro e w45 ⟨v660, v663, rfl, ho0, ho1, hb⟩; refine ⟨_, rfl, ?_⟩; have HO661 := aM (Kd.S_lower ho0 (below_size bS)); have HO664 := aM (Kd.S_lower ho1 (below_size bS)); replace BK655 := kB_ gb655 hb; replace BK656 := kB_ gb656 hb; replace HB := hB hb; (try clear hb ho0 ho1)) | ((with_reducible refine gD 3 ?_); refine bxE #[.int .i64 0, .int .i64 0, .slice none 0 0, .slice none 0 0] 30 ?_; intro gb665 hg w46 BK665 hb; have GW665 := gE hg; have GE665 := gE hg; have NB655_665 := nL_ gb655 hg; have NB665_655 := nG_ gb655 hg; have NB656_665 := nL_ gb656 hg; have NB665_656 := nG_ gb656 hg; replace HO661 := sB HO661 hb; replace HO664 := sB HO664 hb; replace BK655 := kB_ gb655 hb; replace BK656 := kB_ gb656 hb; replace HB := hB hb; clear hb hg; have hnb47 := NB665_655.out; have hnc47 := NB655_665.out; have hnb48 := NB665_656.out; have hnc48 := NB656_665.out; have hz49 := cz4 BK665; obtain ⟨Ao50, co50, eo50⟩ := Kd.S_slice HO661.out; subst eo50; obtain ⟨Ao51, co51, eo51⟩ := Kd.S_slice HO664.out; subst eo51; have hz52 := cz4 BK655) | ((with_reducible refine gC 46 ?_); refine cM (some 9) Tryz.func46 (impl_BandOk.calls k a0_0 a0_1 _ _ l0_2 _ _ l0_3 _ _ (Kd.C_below HR0_2.out bS) HC0_2.out (Kd.C_below HR0_3.out bS) HC0_3.out A3.out) ?_; rintro e w53 ⟨rfl, hb⟩; refine ⟨_, rfl, ?_⟩; replace HO661 := aM (Kd.S_below (by exact sG HO661 BK665) hb); replace HO664 := aM (Kd.S_below (by exact sG HO664 BK665) hb); replace BK655 := kB_ gb655 hb; replace BK656 := kB_ gb656 hb; replace BK665 := kO gb665 #[.int .i64 t657, .int .i64 t658, .slice Ao50 t659.length co50, .slice Ao51 t662.length co51] 30 hb; replace HB := hB hb; (try clear hb hk); have hz54 := cz4 BK665; have hz55 := cz4 BK656))
  refine bodyPost_ret (results_cell_row rfl _ _ gb656 30 #[.int .i64 t657, .int .i64 t658, .slice Ao50 t659.length co50, .slice Ao51 t662.length co51] (0, 0) _ rfl kS Tryz.underlying30 rfl (by kernel_rfl)) rfl ?_
  exact ⟨_, _, eS, by exact sT (Kd.S_mono (Kd.S_far (p := ⟨gb656, 3, none⟩) (Kd.S_far (p := ⟨gb656, 2, none⟩) (Kd.S_far (p := ⟨gb656, 1, none⟩) (Kd.S_far (p := ⟨gb656, 0, none⟩) (Kd.S_types HO661.out BK656.out (by decide)) (fun _ hk => hk.2) (.int .i64 t657)) (fun _ hk => hk.2) (.int .i64 t658)) (fun _ hk => hk.2) (.slice Ao50 t659.length co50)) (fun _ hk => hk.2) (.slice Ao51 t662.length co51)) (fun _ hk => trivial)), by exact sT (Kd.S_mono (Kd.S_far (p := ⟨gb656, 3, none⟩) (Kd.S_far (p := ⟨gb656, 2, none⟩) (Kd.S_far (p := ⟨gb656, 1, none⟩) (Kd.S_far (p := ⟨gb656, 0, none⟩) (Kd.S_types HO664.out BK656.out (by decide)) (fun _ hk => hk.2) (.int .i64 t657)) (fun _ hk => hk.2) (.int .i64 t658)) (fun _ hk => hk.2) (.slice Ao50 t659.length co50)) (fun _ hk => hk.2) (.slice Ao51 t662.length co51)) (fun _ hk => trivial)), bS⟩

/-! ### impl_CountDots: function 130 -/
def impl_CountDots.f (a0_0 : Int) (a0_1 : Int) (a0_2 : Int) (a0_3 : Int) : Option (Int) := (impl_BoxOk.f a0_0 a0_1 a0_2 a0_3).bind fun t671 => (if t671 = true then (some (wrap64 ((wrap64 (a0_2 - a0_0)) * (wrap64 (a0_3 - a0_1))))) else (some 0))
theorem impl_CountDots.calls (a0_0 : Int) (a0_1 : Int) (a0_2 : Int) (a0_3 : Int) (r : Int) (w : World) (h : impl_CountDots.f a0_0 a0_1 a0_2 a0_3 = some r) :
  Calls Tryz.prog 130 #[.agg #[.int .i64 a0_0, .int .i64 a0_1, .int .i64 a0_2, .int .i64 a0_3]] w fun e w' => e = .returned (.int .i64 r) ∧ Below w.heap.size w w' := by
 have hu47 := Tryz.underlying47
 have HB := aM (Below.refl w.heap.size w)
 have H := h
 clear h
 unfold impl_CountDots.f at H
 replace H := bN H
 obtain ⟨t671, A2, H⟩ := H
 by_cases c3 : t671 = true
 ·subst c3
  rw [if_pos rfl] at H
  obtain rfl := Option.some.inj H
  go_enter Tryz.func130, Tryz.ntmps130
  go_wp2_with (first | ((with_reducible refine gD 1 ?_); refine bxE #[.int .i64 a0_0, .int .i64 a0_1, .int .i64 a0_2, .int .i64 a0_3] 47 ?_; intro gb670 hg w4 BK670 hb; have GW670 := gE hg; have GE670 := gE hg; replace HB := hB hb; clear hb hg; have hz5 := cz4 BK670) | ((with_reducible refine gC 126 ?_); refine cM (some 4) Tryz.func126 (impl_BoxOk.calls a0_0 a0_1 a0_2 a0_3 _ _ A2.out) ?_; rintro e w6 ⟨rfl, hb⟩; refine ⟨_, rfl, ?_⟩; replace BK670 := kB_ gb670 hb; replace HB := hB hb; (try clear hb); have hz7 := cz4 BK670))
  go_ret
  exact ⟨eS, bS⟩
 ·obtain rfl := Bool.eq_false_iff.mpr c3
  rw [if_neg nF] at H
  obtain rfl := Option.some.inj H
  go_enter Tryz.func130, Tryz.ntmps130
  go_wp2_with (first | ((with_reducible refine gD 1 ?_); refine bxE #[.int .i64 a0_0, .int .i64 a0_1, .int .i64 a0_2, .int .i64 a0_3] 47 ?_; intro gb670 hg w8 BK670 hb; have GW670 := gE hg; have GE670 := gE hg; replace HB := hB hb; clear hb hg; have hz9 := cz4 BK670) | ((with_reducible refine gC 126 ?_); refine cM (some 4) Tryz.func126 (impl_BoxOk.calls a0_0 a0_1 a0_2 a0_3 _ _ A2.out) ?_; rintro e w10 ⟨rfl, hb⟩; refine ⟨_, rfl, ?_⟩; replace BK670 := kB_ gb670 hb; replace HB := hB hb; (try clear hb)))
  go_ret
  exact ⟨eS, bS⟩

/-! ### impl_TouchesBand: function 65 -/
def impl_TouchesBand.j0 : Nat → Int → Int → Bool → List (S151) → Int → Int → Int → Int → Int → Option (Bool)
 | 0, _, _, _, _, _, _, _, _, _ => none
 | k + 1, x1, x2, x18, x673000, x673001, x673002, x673003, x673004, x673005 => if x18 = true then (some false) else ((impl_ObjectBox.f k x673000 x673001 x673002 x673003 x673004 x673005).bind fun bt676 => ((impl_CountDots.f bt676.1 bt676.2.1 bt676.2.2.1 bt676.2.2.2).bind fun t681 => (if t681 > 0 then (if bt676.2.1 < (wrap64 ((wrap64 (x2 * x1)) + x1)) then (some (decide (bt676.2.2.2 > (wrap64 (x2 * x1))))) else (some false)) else (some false))))
def impl_TouchesBand.f (k : Nat) (l0_0 : List (S151)) (a0_1 : Int) (a0_2 : Int) (a0_3 : Int) (a0_4 : Int) (a0_5 : Int) (a1 : Int) (a2 : Int) : Option (Bool) := (impl_IsHeight.f a1).bind fun t673 => (if t673 = true then ((impl_CountBands.f a1).bind fun t674 => ((impl_within.f a2 0 (wrap64 (t674 - 1))).bind fun t675 => (impl_TouchesBand.j0 k a1 a2 (!t675) l0_0 a0_1 a0_2 a0_3 a0_4 a0_5))) else (impl_TouchesBand.j0 k a1 a2 true l0_0 a0_1 a0_2 a0_3 a0_4 a0_5))
theorem impl_TouchesBand.calls (k : Nat) (A0_0 : Option Addr) (c0_0 : Nat) (l0_0 : List (S151)) (a0_1 : Int) (a0_2 : Int) (a0_3 : Int) (a0_4 : Int) (a0_5 : Int) (a1 : Int) (a2 : Int) (r : Bool) (w : World) (hr0_0 : Kd.C k151 w A0_0 l0_0.length l0_0) (hc0_0 : l0_0.length ≤ c0_0) (h : impl_TouchesBand.f k l0_0 a0_1 a0_2 a0_3 a0_4 a0_5 a1 a2 = some r) :
  Calls Tryz.prog 65 #[.agg #[.slice A0_0 l0_0.length c0_0, .int .i64 a0_1, .int .i64 a0_2, .int .i64 a0_3, .int .i64 a0_4, .int .i64 a0_5], .int .i64 a1, .int .i64 a2] w fun e w' => e = .returned (.bool r) ∧ Below w.heap.size w w' := by
 have hu49 := Tryz.underlying49
 have hu47 := Tryz.underlying47
 have HR0_0 := aM hr0_0
 have HC0_0 := aM hc0_0
 clear hr0_0 hc0_0
 have HB := aM (Below.refl w.heap.size w)
 have H := h
 clear h
 unfold impl_TouchesBand.f at H
 have HC4 := aM H
 clear H
 go_enter Tryz.func65, Tryz.ntmps65
 go_upto_region 1 with (first | ((with_reducible refine gD 3 ?_); refine bxE #[.slice A0_0 l0_0.length c0_0, .int .i64 a0_1, .int .i64 a0_2, .int .i64 a0_3, .int .i64 a0_4, .int .i64 a0_5] 49 ?_; intro gb672 hg w5 BK672 hb; have GW672 := gE hg; have GE672 := gE hg; replace HB := hB hb; clear hb hg))
 (try simp only [Act.put, List.setIfInBounds_toArray, List.set_cons_zero, List.set_cons_succ])
 go_cut [18] (fun v18 wc => ∃ (kq : Nat) (x18_3 : Bool), v18 = .bool x18_3 ∧ Aside0 (impl_TouchesBand.j0 kq a1 a2 x18_3 l0_0 a0_1 a0_2 a0_3 a0_4 a0_5 = some r) ∧ Aside0 (kq ≤ k) ∧ Aside0 (wc.heap[gb672]? = some (.cells #[(.slice A0_0 l0_0.length c0_0), .int .i64 a0_1, .int .i64 a0_2, .int .i64 a0_3, .int .i64 a0_4, .int .i64 a0_5] 49 (0, 0))) ∧ Aside0 (Below w.heap.size w wc))
 case first =>
  have H := HC4.out
  clear HC4
  replace H := bN H
  obtain ⟨t673, A6, H⟩ := H
  by_cases c7 : t673 = true
  ·subst c7
   rw [if_pos rfl] at H
   replace H := bN H
   obtain ⟨t674, A8, H⟩ := H
   replace H := bN H
   obtain ⟨t675, A9, H⟩ := H
   have H' := aM H
   clear H
   go_wp2_with (first | ((with_reducible refine gC 127 ?_); refine cM (some 9) Tryz.func127 (impl_IsHeight.calls a1 _ _ A6.out) ?_; rintro e w' ⟨rfl, ⟨nd, rfl⟩⟩; refine ⟨_, rfl, ?_⟩) | (go_at_call 128; (with_reducible refine (impl_CountBands.calls a1 t674 _ A8.out).mono ?_); rintro e w' ⟨rfl, ⟨nd, rfl⟩⟩) | (go_at_call 124; (with_reducible refine (impl_within.calls a2 0 (wrap64 (t674 - 1)) t675 _ A9.out).mono ?_); rintro e w' ⟨rfl, ⟨nd, rfl⟩⟩))
   go_meet
   case rel => exact ⟨_, (!t675), fS, H', ⟨by first | omega | exact Nat.le_refl _⟩, ⟨kS⟩, ⟨bS⟩⟩
  ·obtain rfl := Bool.eq_false_iff.mpr c7
   rw [if_neg nF] at H
   have H' := aM H
   clear H
   go_wp2_with (first | ((with_reducible refine gC 127 ?_); refine cM (some 9) Tryz.func127 (impl_IsHeight.calls a1 _ _ A6.out) ?_; rintro e w' ⟨rfl, ⟨nd, rfl⟩⟩; refine ⟨_, rfl, ?_⟩))
   go_meet
   case rel => exact ⟨_, (true), fS, H', ⟨by first | omega | exact Nat.le_refl _⟩, ⟨kS⟩, ⟨bS⟩⟩
 case rest =>
  clear HC4
  try clear c1
  try clear p2
  try clear c6
  try clear p6
  try clear c7
  obtain ⟨kq, x18_3, rfl, HA, HJ3, BK672, HB⟩ := hcut
  cases kq with
  | zero => exact absurd HA.out (by simp [impl_TouchesBand.j0])
  | succ kj3 =>
   have H := HA.out
   clear HA
   simp only [impl_TouchesBand.j0] at H
   by_cases c10 : x18_3 = true
   ·subst c10
    rw [if_pos rfl] at H
    obtain rfl := Option.some.inj H
    go_wp2
    go_ret
    exact ⟨eS, bS⟩
   ·obtain rfl := Bool.eq_false_iff.mpr c10
    rw [if_neg nF] at H
    replace H := bN H
    obtain ⟨⟨t676, t677, t678, t679⟩, A11, H⟩ := H
    replace H := bN H
    obtain ⟨t681, A12, H⟩ := H
    by_cases c13 : t681 > 0
    ·rw [if_pos c13] at H
     have c13b0 : decide (0 < t681) = true := decide_eq_true c13
     clear c13
     rcases iD H with ⟨c14b0, H⟩ | ⟨c14b0, H⟩
     ·obtain rfl := Option.some.inj H
      have hz15 := cz6 BK672
      go_wp2_with (first | ((with_reducible refine gC 129 ?_); refine cM (some 20) Tryz.func129 (impl_ObjectBox.calls kj3 _ _ l0_0 a0_1 a0_2 a0_3 a0_4 a0_5 t676 t677 t678 t679 _ (cC HR0_0 HB) HC0_0.out A11.out) ?_; rintro e w16 ⟨rfl, hb⟩; refine ⟨_, rfl, ?_⟩; replace BK672 := kB_ gb672 hb; replace HB := hB hb; (try clear hb)) | ((with_reducible refine gD 7 ?_); refine bxE #[.int .i64 0, .int .i64 0, .int .i64 0, .int .i64 0] 47 ?_; intro gb680 hg w17 BK680 hb; have GW680 := gE hg; have GE680 := gE hg; have NB672_680 := nL_ gb672 hg; have NB680_672 := nG_ gb672 hg; replace BK672 := kB_ gb672 hb; replace HB := hB hb; clear hb hg; have hnb18 := NB680_672.out; have hnc18 := NB672_680.out; have hz19 := cz4 BK680) | ((with_reducible refine gC 130 ?_); refine cM (some 22) Tryz.func130 (impl_CountDots.calls t676 t677 t678 t679 t681 _ A12.out) ?_; rintro e w20 ⟨rfl, hb⟩; refine ⟨_, rfl, ?_⟩; replace BK672 := kB_ gb672 hb; replace BK680 := kO gb680 #[.int .i64 t676, .int .i64 t677, .int .i64 t678, .int .i64 t679] 47 hb; replace HB := hB hb; (try clear hb); have hz21 := cz4 BK680))
      go_ret
      exact ⟨eS, bS⟩
     ·obtain rfl := Option.some.inj H
      have hz22 := cz6 BK672
      go_wp2_with (first | ((with_reducible refine gC 129 ?_); refine cM (some 20) Tryz.func129 (impl_ObjectBox.calls kj3 _ _ l0_0 a0_1 a0_2 a0_3 a0_4 a0_5 t676 t677 t678 t679 _ (cC HR0_0 HB) HC0_0.out A11.out) ?_; rintro e w23 ⟨rfl, hb⟩; refine ⟨_, rfl, ?_⟩; replace BK672 := kB_ gb672 hb; replace HB := hB hb; (try clear hb)) | ((with_reducible refine gD 7 ?_); refine bxE #[.int .i64 0, .int .i64 0, .int .i64 0, .int .i64 0] 47 ?_; intro gb680 hg w24 BK680 hb; have GW680 := gE hg; have GE680 := gE hg; have NB672_680 := nL_ gb672 hg; have NB680_672 := nG_ gb672 hg; replace BK672 := kB_ gb672 hb; replace HB := hB hb; clear hb hg; have hnb25 := NB680_672.out; have hnc25 := NB672_680.out; have hz26 := cz4 BK680) | ((with_reducible refine gC 130 ?_); refine cM (some 22) Tryz.func130 (impl_CountDots.calls t676 t677 t678 t679 t681 _ A12.out) ?_; rintro e w27 ⟨rfl, hb⟩; refine ⟨_, rfl, ?_⟩; replace BK672 := kB_ gb672 hb; replace BK680 := kO gb680 #[.int .i64 t676, .int .i64 t677, .int .i64 t678, .int .i64 t679] 47 hb; replace HB := hB hb; (try clear hb); have hz28 := cz4 BK680))
      go_ret
      exact ⟨eS, bS⟩
    ·rw [if_neg c13] at H
     have c13b0 : decide (0 < t681) = false := decide_eq_false c13
     clear c13
     obtain rfl := Option.some.inj H
     have hz29 := cz6 BK672
     go_wp2_with (first | ((with_reducible refine gC 129 ?_); refine cM (some 20) Tryz.func129 (impl_ObjectBox.calls kj3 _ _ l0_0 a0_1 a0_2 a0_3 a0_4 a0_5 t676 t677 t678 t679 _ (cC HR0_0 HB) HC0_0.out A11.out) ?_; rintro e w30 ⟨rfl, hb⟩; refine ⟨_, rfl, ?_⟩; replace BK672 := kB_ gb672 hb; replace HB := hB hb; (try clear hb)) | ((with_reducible refine gD 7 ?_); refine bxE #[.int .i64 0, .int .i64 0, .int .i64 0, .int .i64 0] 47 ?_; intro gb680 hg w31 BK680 hb; have GW680 := gE hg; have GE680 := gE hg; have NB672_680 := nL_ gb672 hg; have NB680_672 := nG_ gb672 hg; replace BK672 := kB_ gb672 hb; replace HB := hB hb; clear hb hg; have hnb32 := NB680_672.out; have hnc32 := NB672_680.out; have hz33 := cz4 BK680) | ((with_reducible refine gC 130 ?_); refine cM (some 22) Tryz.func130 (impl_CountDots.calls t676 t677 t678 t679 t681 _ A12.out) ?_; rintro e w34 ⟨rfl, hb⟩; refine ⟨_, rfl, ?_⟩; replace BK672 := kB_ gb672 hb; replace BK680 := kO gb680 #[.int .i64 t676, .int .i64 t677, .int .i64 t678, .int .i64 t679] 47 hb; replace HB := hB hb; (try clear hb)))
     go_ret
     exact ⟨eS, bS⟩

/-! ### impl_AddToBand: function 23 -/
def impl_AddToBand.j0 : Nat → Bool → Int → Int → List (List Int) → List (S49) → List (S151) → Int → Int → Int → Int → Int → Option (Int × Int × (List (List Int)) × (List (S49)) × Bool)
 | 0, _, _, _, _, _, _, _, _, _, _, _ => none
 | k + 1, x14, x683000, x683001, x683002, x683003, x684000, x684001, x684002, x684003, x684004, x684005 => if x14 = true then ((impl_copyBand.f k x683000 x683001 x683002 x683003).bind fun bt687 => (some (bt687.1, bt687.2.1, bt687.2.2.1, bt687.2.2.2, false))) else ((impl_TouchesBand.f k x684000 x684001 x684002 x684003 x684004 x684005 x683000 x683001).bind fun t695 => (if t695 = true then ((impl_copyBand.f k x683000 x683001 x683002 x683003).bind fun bt704 => ((impl_BandCells.f k x683000 x683001 x683002 x683003).bind fun t713 => (if (wrap64 ((wrap64 (t713 + 2)) + (x684000.length : Int))) > 60 then ((impl_MergeBand.f k x683000 x683001 x683002 x683003).bind fun bt714 => ((impl_copyObject.f x684000 x684001 x684002 x684003 x684004 x684005).bind fun bt722 => (if bt714.2.2.2.length < 2199023255552 then (some (bt714.1, bt714.2.1, bt714.2.2.1, (bt714.2.2.2 ++ [(⟨bt722.1, bt722.2.1, (⟨bt722.2.2.1, bt722.2.2.2.1, bt722.2.2.2.2.1, bt722.2.2.2.2.2⟩ : S47)⟩ : S49)]), true)) else (none)))) else ((impl_copyObject.f x684000 x684001 x684002 x684003 x684004 x684005).bind fun bt733 => (if bt704.2.2.2.length < 2199023255552 then (some (bt704.1, bt704.2.1, bt704.2.2.1, (bt704.2.2.2 ++ [(⟨bt733.1, bt733.2.1, (⟨bt733.2.2.1, bt733.2.2.2.1, bt733.2.2.2.2.1, bt733.2.2.2.2.2⟩ : S47)⟩ : S49)]), true)) else (none)))))) else ((impl_copyBand.f k x683000 x683001 x683002 x683003).bind fun bt696 => (some (bt696.1, bt696.2.1, bt696.2.2.1, bt696.2.2.2, true)))))
def impl_AddToBand.f (k : Nat) (a0_0 : Int) (a0_1 : Int) (l0_2 : List (List Int)) (l0_3 : List (S49)) (l1_0 : List (S151)) (a1_1 : Int) (a1_2 : Int) (a1_3 : Int) (a1_4 : Int) (a1_5 : Int) : Option (Int × Int × (List (List Int)) × (List (S49)) × Bool) := (impl_BandOk.f k a0_0 a0_1 l0_2 l0_3).bind fun t685 => (if t685 = true then ((impl_ObjectOk.f k l1_0 a1_1 a1_2 a1_3 a1_4 a1_5).bind fun t686 => (impl_AddToBand.j0 k (!t686) a0_0 a0_1 l0_2 l0_3 l1_0 a1_1 a1_2 a1_3 a1_4 a1_5)) else (impl_AddToBand.j0 k true a0_0 a0_1 l0_2 l0_3 l1_0 a1_1 a1_2 a1_3 a1_4 a1_5))
def impl_AddToBand.T6 : Bool × List (List Nat × List Nat) := (true, [([], []), ([0], [0]), ([1], [1]), ([], []), ([3], [3]), ([4], [4]), ([2, 5], [2, 5]), ([6], [6])])
def impl_AddToBand.B6 : List Nat := [0, 1, 3, 0, 8, 24, 63, 127]
theorem impl_AddToBand.tab6 : rtab .any (opsOf Tryz.f23 6) = impl_AddToBand.T6 := by kernel_rfl
theorem impl_AddToBand.bits6 : waitsOk impl_AddToBand.T6.2 impl_AddToBand.B6 = true := by kernel_rfl
def impl_AddToBand.T8 : Bool × List (List Nat × List Nat) := (true, [([], []), ([0], [0]), ([], []), ([2], [2]), ([3], [3]), ([1, 4, 3], [1, 4]), ([0, 1, 2, 3, 4, 5], []), ([6, 5, 5, 0, 1, 2, 3, 4, 5], [5, 6])])
def impl_AddToBand.B8 : List Nat := [0, 1, 0, 4, 12, 31, 63, 127]
theorem impl_AddToBand.tab8 : rtab .any (opsOf Tryz.f23 8) = impl_AddToBand.T8 := by kernel_rfl
theorem impl_AddToBand.bits8 : waitsOk impl_AddToBand.T8.2 impl_AddToBand.B8 = true := by kernel_rfl
theorem impl_AddToBand.calls (k : Nat) (a0_0 : Int) (a0_1 : Int) (A0_2 : Option Addr) (c0_2 : Nat) (l0_2 : List (List Int)) (A0_3 : Option Addr) (c0_3 : Nat) (l0_3 : List (S49)) (A1_0 : Option Addr) (c1_0 : Nat) (l1_0 : List (S151)) (a1_1 : Int) (a1_2 : Int) (a1_3 : Int) (a1_4 : Int) (a1_5 : Int) (r1 : Int) (r2 : Int) (r3 : List (List Int)) (r4 : List (S49)) (r5 : Bool) (w : World) (hr0_2 : Kd.C (Kd.slice 3 (Kd.int .i64)) w A0_2 l0_2.length l0_2) (hc0_2 : l0_2.length ≤ c0_2) (hr0_3 : Kd.C k49 w A0_3 l0_3.length l0_3) (hc0_3 : l0_3.length ≤ c0_3) (hr1_0 : Kd.C k151 w A1_0 l1_0.length l1_0) (hc1_0 : l1_0.length ≤ c1_0) (h : impl_AddToBand.f k a0_0 a0_1 l0_2 l0_3 l1_0 a1_1 a1_2 a1_3 a1_4 a1_5 = some (r1, r2, r3, r4, r5)) :
  Calls Tryz.prog 23 #[.agg #[.int .i64 a0_0, .int .i64 a0_1, .slice A0_2 l0_2.length c0_2, .slice A0_3 l0_3.length c0_3], .agg #[.slice A1_0 l1_0.length c1_0, .int .i64 a1_1, .int .i64 a1_2, .int .i64 a1_3, .int .i64 a1_4, .int .i64 a1_5]] w fun e w' => ∃ v2_ v3_ : Value, e = .returned (.tuple #[.agg #[.int .i64 r1, .int .i64 r2, v2_, v3_], .bool r5]) ∧ Kd.S (Kd.slice 3 (Kd.int .i64)) 54 w' w.heap.size (fun _ => True) v2_ r3 ∧ Kd.S k49 49 w' w.heap.size (fun _ => True) v3_ r4 ∧ Below w.heap.size w w' := by
 have hu30 := Tryz.underlying30
 have hu49 := Tryz.underlying49
 have HR0_2 := aM hr0_2
 have HC0_2 := aM hc0_2
 clear hr0_2 hc0_2
 have HR0_3 := aM hr0_3
 have HC0_3 := aM hc0_3
 clear hr0_3 hc0_3
 have HR1_0 := aM hr1_0
 have HC1_0 := aM hc1_0
 clear hr1_0 hc1_0
 have HB := aM (Below.refl w.heap.size w)
 have H := h
 clear h
 unfold impl_AddToBand.f at H
 have HC3 := aM H
 clear H
 go_enter Tryz.func23, Tryz.ntmps23
 go_upto_region 1 with (first | ((with_reducible refine gD 2 ?_); refine bxE #[.int .i64 a0_0, .int .i64 a0_1, .slice A0_2 l0_2.length c0_2, .slice A0_3 l0_3.length c0_3] 30 ?_; intro gb682 hg w4 BK682 hb; have GW682 := gE hg; have GE682 := gE hg; replace HB := hB hb; clear hb hg) | ((with_reducible refine gD 3 ?_); refine bxE #[.slice A1_0 l1_0.length c1_0, .int .i64 a1_1, .int .i64 a1_2, .int .i64 a1_3, .int .i64 a1_4, .int .i64 a1_5] 49 ?_; intro gb683 hg w5 BK683 hb; have GW683 := gE hg; have GE683 := gE hg; have NB682_683 := nL_ gb682 hg; have NB683_682 := nG_ gb682 hg; replace BK682 := kB_ gb682 hb; replace HB := hB hb; clear hb hg) | ((with_reducible refine gD 4 ?_); refine bxE #[.int .i64 0, .int .i64 0, .slice none 0 0, .slice none 0 0] 30 ?_; intro gb684 hg w6 BK684 hb; have GW684 := gE hg; have GE684 := gE hg; have NB682_684 := nL_ gb682 hg; have NB684_682 := nG_ gb682 hg; have NB683_684 := nL_ gb683 hg; have NB684_683 := nG_ gb683 hg; replace BK682 := kB_ gb682 hb; replace BK683 := kB_ gb683 hb; replace HB := hB hb; clear hb hg))
 (try simp only [Act.put, List.setIfInBounds_toArray, List.set_cons_zero, List.set_cons_succ])
 go_cut [14] (fun v14 wc => ∃ (kq : Nat) (x14_2 : Bool), v14 = .bool x14_2 ∧ Aside0 (impl_AddToBand.j0 kq x14_2 a0_0 a0_1 l0_2 l0_3 l1_0 a1_1 a1_2 a1_3 a1_4 a1_5 = some (r1, r2, r3, r4, r5)) ∧ Aside0 (kq ≤ k) ∧ Aside0 (wc.heap[gb682]? = some (.cells #[.int .i64 a0_0, .int .i64 a0_1, (.slice A0_2 l0_2.length c0_2), (.slice A0_3 l0_3.length c0_3)] 30 (0, 0))) ∧ Aside0 (wc.heap[gb683]? = some (.cells #[(.slice A1_0 l1_0.length c1_0), .int .i64 a1_1, .int .i64 a1_2, .int .i64 a1_3, .int .i64 a1_4, .int .i64 a1_5] 49 (0, 0))) ∧ Aside0 (wc.heap[gb684]? = some (.cells #[.int .i64 0, .int .i64 0, (.slice none 0 0), (.slice none 0 0)] 30 (0, 0))) ∧ Aside0 (Below w.heap.size w wc))
 case first =>
  have H := HC3.out
  clear HC3
  replace H := bN H
  obtain ⟨t685, A7, H⟩ := H
  by_cases c8 : t685 = true
  ·subst c8
   rw [if_pos rfl] at H
   replace H := bN H
   obtain ⟨t686, A9, H⟩ := H
   have H' := aM H
   clear H
   have hnb10 := NB682_683.out
   have hnc10 := NB683_682.out
   have hnb11 := NB682_684.out
   have hnc11 := NB684_682.out
   have hcz12_0 := cg0 BK682
   have hcz12_1 := cg1 BK682
   have hcz12_2 := cg2 BK682
   have hcz12_3 := cg3 BK682
   have hfz12_0 := blk_frozen BK682.out 0
   have hfz12_1 := blk_frozen BK682.out 1
   have hfz12_2 := blk_frozen BK682.out 2
   have hfz12_3 := blk_frozen BK682.out 3
   go_wp2_with (first | ((with_reducible refine gC 46 ?_); refine cM (some 8) Tryz.func46 (impl_BandOk.calls k a0_0 a0_1 _ _ l0_2 _ _ l0_3 _ _ (cC HR0_2 HB) HC0_2.out (cC HR0_3 HB) HC0_3.out A7.out) ?_; rintro e w13 ⟨rfl, hb⟩; refine ⟨_, rfl, ?_⟩; replace BK682 := kB_ gb682 hb; replace BK683 := kB_ gb683 hb; replace BK684 := kB_ gb684 hb; replace HB := hB hb; (try clear hb); have hnb14 := NB683_684.out; have hnc14 := NB684_683.out; have hcz15_0 := cg0 BK683; have hcz15_1 := cg1 BK683; have hcz15_2 := cg2 BK683; have hcz15_3 := cg3 BK683; have hcz15_4 := cg4 BK683; have hcz15_5 := cg5 BK683; have hfz15_0 := blk_frozen BK683.out 0; have hfz15_1 := blk_frozen BK683.out 1; have hfz15_2 := blk_frozen BK683.out 2; have hfz15_3 := blk_frozen BK683.out 3; have hfz15_4 := blk_frozen BK683.out 4; have hfz15_5 := blk_frozen BK683.out 5) | (go_at_call 64; (with_reducible refine (impl_ObjectOk.calls k _ _ l1_0 a1_1 a1_2 a1_3 a1_4 a1_5 t686 _ (cC HR1_0 HB) HC1_0.out A9.out).mono ?_); rintro e w16 ⟨rfl, hb⟩; replace BK682 := kB_ gb682 hb; replace BK683 := kB_ gb683 hb; replace BK684 := kB_ gb684 hb; replace HB := hB hb; (try clear hb)))
   go_meet
   case rel => exact ⟨_, (!t686), fS, H', ⟨by first | omega | exact Nat.le_refl _⟩, ⟨kS⟩, ⟨kS⟩, ⟨kS⟩, ⟨bS⟩⟩
  ·obtain rfl := Bool.eq_false_iff.mpr c8
   rw [if_neg nF] at H
   have H' := aM H
   clear H
   have hnb17 := NB682_683.out
   have hnc17 := NB683_682.out
   have hnb18 := NB682_684.out
   have hnc18 := NB684_682.out
   have hcz19_0 := cg0 BK682
   have hcz19_1 := cg1 BK682
   have hcz19_2 := cg2 BK682
   have hcz19_3 := cg3 BK682
   have hfz19_0 := blk_frozen BK682.out 0
   have hfz19_1 := blk_frozen BK682.out 1
   have hfz19_2 := blk_frozen BK682.out 2
   have hfz19_3 := blk_frozen BK682.out 3
   go_wp2_with (first | ((with_reducible refine gC 46 ?_); refine cM (some 8) Tryz.func46 (impl_BandOk.calls k a0_0 a0_1 _ _ l0_2 _ _ l0_3 _ _ (cC HR0_2 HB) HC0_2.out (cC HR0_3 HB) HC0_3.out A7.out) ?_; rintro e w20 ⟨rfl, hb⟩; refine ⟨_, rfl, ?_⟩; replace BK682 := kB_ gb682 hb; replace BK683 := kB_ gb683 hb; replace BK684 := kB_ gb684 hb; replace HB := hB hb; (try clear hb)))
   go_meet
   case rel => exact ⟨_, (true), fS, H', ⟨by first | omega | exact Nat.le_refl _⟩, ⟨kS⟩, ⟨kS⟩, ⟨kS⟩, ⟨bS⟩⟩
 case rest =>
  clear HC3
  try clear c1
  try clear c2
  try clear p2
  try clear c4
  try clear c8
  try clear c10
  try clear c11
  try clear c14
  try clear c17
  try clear c18
  obtain ⟨kq, x14_2, rfl, HA, HJ2, BK682, BK683, BK684, HB⟩ := hcut
  cases kq with
  | zero => exact absurd HA.out (by simp [impl_AddToBand.j0])
  | succ kj2 =>
   have H := HA.out
   clear HA
   simp only [impl_AddToBand.j0] at H
   by_cases c21 : x14_2 = true
   ·subst c21
    rw [if_pos rfl] at H
    replace H := bN H
    obtain ⟨⟨t687, t688, t689, t692⟩, A22, H⟩ := H
    obtain ⟨rfl, rfl, rfl, rfl, rfl⟩ := sI5 H
    have hnb23 := NB682_683.out
    have hnc23 := NB683_682.out
    have hnb24 := NB682_684.out
    have hnc24 := NB684_682.out
    have hz25 := cz4 BK682
    go_wp2_with (first | ((with_reducible refine gC 54 ?_); refine cM (some 16) Tryz.func54 (impl_copyBand.calls kj2 a0_0 a0_1 _ _ l0_2 _ _ l0_3 t687 t688 t689 t692 _ (cC HR0_2 HB) HC0_2.out (cC HR0_3 HB) HC0_3.out A22.out) ?_; rintro e w26 ⟨v690, v693, rfl, ho0, ho1, hb⟩; refine ⟨_, rfl, ?_⟩; have HO691 := aM (Kd.S_lower ho0 (below_size bS)); have HO694 := aM (Kd.S_lower (Kd.S_newB ho1 (g := gb683) kS) (below_size bS)); replace BK682 := kB_ gb682 hb; replace BK683 := kB_ gb683 hb; replace BK684 := kB_ gb684 hb; replace HB := hB hb; (try clear hb ho0 ho1); have hnb27 := NB684_683.out; have hnc27 := NB683_684.out; have hz28 := cz4 BK684; obtain ⟨Ao29, co29, eo29⟩ := Kd.S_slice HO691.out; subst eo29; obtain ⟨Ao30, co30, eo30⟩ := Kd.S_slice HO694.out; subst eo30))
    refine bodyPost_ret (results_ct rfl _ _ gb684 30 #[.int .i64 t687, .int .i64 t688, .slice Ao29 t689.length co29, .slice Ao30 t692.length co30] (0, 0) _ rfl kS Tryz.underlying30 rfl (by kernel_rfl)) rfl ?_
    exact ⟨_, _, eS, by exact sT (Kd.S_mono (Kd.S_far (p := ⟨gb684, 3, none⟩) (Kd.S_far (p := ⟨gb684, 2, none⟩) (Kd.S_far (p := ⟨gb684, 1, none⟩) (Kd.S_far (p := ⟨gb684, 0, none⟩) (Kd.S_types HO691.out BK684.out (by decide)) (fun _ hk => hk.2) (.int .i64 t687)) (fun _ hk => hk.2) (.int .i64 t688)) (fun _ hk => hk.2) (.slice Ao29 t689.length co29)) (fun _ hk => hk.2) (.slice Ao30 t692.length co30)) (fun _ hk => trivial)), by exact sT (Kd.S_mono (Kd.S_far (p := ⟨gb684, 3, none⟩) (Kd.S_far (p := ⟨gb684, 2, none⟩) (Kd.S_far (p := ⟨gb684, 1, none⟩) (Kd.S_far (p := ⟨gb684, 0, none⟩) (Kd.S_types HO694.out BK684.out (by decide)) (fun _ hk => hk.2) (.int .i64 t687)) (fun _ hk => hk.2) (.int .i64 t688)) (fun _ hk => hk.2) (.slice Ao29 t689.length co29)) (fun _ hk => hk.2) (.slice Ao30 t692.length co30)) (fun _ hk => trivial)), bS⟩
   ·obtain rfl := Bool.eq_false_iff.mpr c21
    rw [if_neg nF] at H
    replace H := bN H
    obtain ⟨t695, A31, H⟩ := H
    by_cases c32 : t695 = true
    ·subst c32
     rw [if_pos rfl] at H
     replace H := bN H
     obtain ⟨⟨t704, t705, t706, t709⟩, A33, H⟩ := H
     replace H := bN H
     obtain ⟨t713, A34, H⟩ := H
     by_cases c35 : (wrap64 ((wrap64 (t713 + 2)) + (l1_0.length : Int))) > 60
     ·rw [if_pos c35] at H
      have c35b0 : decide (60 < (wrap64 ((wrap64 (t713 + 2)) + (l1_0.length : Int)))) = true := decide_eq_true c35
      clear c35
      replace H := bN H
      obtain ⟨⟨t714, t715, t716, t719⟩, A36, H⟩ := H
      replace H := bN H
      obtain ⟨⟨t722, t725, t726, t727, t728, t729⟩, A37, H⟩ := H
      obtain ⟨LMc38, H⟩ := iL H
      obtain ⟨y730, hy_⟩ : ∃ y_ : List (S49), y_ = (t719 ++ [(⟨t722, t725, (⟨t726, t727, t728, t729⟩ : S47)⟩ : S49)]) := ⟨_, rfl⟩
      replace H : (some (t714, t715, t716, y730, true)) = some (r1, r2, r3, r4, r5) := yS
      have Ny730 := aM hy_
      clear hy_
      obtain ⟨rfl, rfl, rfl, rfl, rfl⟩ := sI5 H
      have hnb39 := NB683_682.out
      have hnc39 := NB682_683.out
      have hnb40 := NB683_684.out
      have hnc40 := NB684_683.out
      have hz41 := cz6 BK683
      have hnb42 := NB682_684.out
      have hnc42 := NB684_682.out
      have hz43 := cz4 BK682
      try go_wp2_with (first | ((with_reducible refine gC 65 ?_); refine cM (some 22) Tryz.func65 (impl_TouchesBand.calls kj2 _ _ l1_0 a1_1 a1_2 a1_3 a1_4 a1_5 a0_0 a0_1 _ _ (cC HR1_0 HB) HC1_0.out A31.out) ?_; rintro e w44 ⟨rfl, hb⟩; refine ⟨_, rfl, ?_⟩; replace BK682 := kB_ gb682 hb; replace BK683 := kB_ gb683 hb; replace BK684 := kB_ gb684 hb; replace HB := hB hb; (try clear hb); have hz45 := cz4 BK682) | ((with_reducible refine gC 54 ?_); refine cM (some 27) Tryz.func54 (impl_copyBand.calls kj2 a0_0 a0_1 _ _ l0_2 _ _ l0_3 t704 t705 t706 t709 _ (cC HR0_2 HB) HC0_2.out (cC HR0_3 HB) HC0_3.out A33.out) ?_; rintro e w46 ⟨v707, v710, rfl, ho0, ho1, hb⟩; refine ⟨_, rfl, ?_⟩; have HO708 := aM (Kd.S_lower ho0 (below_size bS)); have HO711 := aM (Kd.S_lower (Kd.S_newB ho1 (g := gb683) kS) (below_size bS)); replace BK682 := kB_ gb682 hb; replace BK683 := kB_ gb683 hb; replace BK684 := kB_ gb684 hb; replace HB := hB hb; (try clear hb ho0 ho1)) | ((with_reducible refine gD 6 ?_); refine bxE #[.int .i64 0, .int .i64 0, .slice none 0 0, .slice none 0 0] 30 ?_; intro gb712 hg w47 BK712 hb; have GW712 := gE hg; have GE712 := gE hg; have NB682_712 := nL_ gb682 hg; have NB712_682 := nG_ gb682 hg; have NB683_712 := nL_ gb683 hg; have NB712_683 := nG_ gb683 hg; have NB684_712 := nL_ gb684 hg; have NB712_684 := nG_ gb684 hg; replace HO708 := sB HO708 hb; replace HO711 := sB HO711 hb; replace BK682 := kB_ gb682 hb; replace BK683 := kB_ gb683 hb; replace BK684 := kB_ gb684 hb; replace HB := hB hb; clear hb hg; have hnb48 := NB712_682.out; have hnc48 := NB682_712.out; have hnb49 := NB712_683.out; have hnc49 := NB683_712.out; have hnb50 := NB712_684.out; have hnc50 := NB684_712.out; have hz51 := cz4 BK712; obtain ⟨Ao52, co52, eo52⟩ := Kd.S_slice HO708.out; subst eo52; obtain ⟨Ao53, co53, eo53⟩ := Kd.S_slice HO711.out; subst eo53))
      have n0_ : Aside0 (Kd.S (Kd.slice 3 (Kd.int .i64)) 54 ((((w47.setCell ⟨gb712, 0, none⟩ (.int .i64 t704)).setCell ⟨gb712, 1, none⟩ (.int .i64 t705)).setCell ⟨gb712, 2, none⟩ (.slice Ao52 t706.length co52)).setCell ⟨gb712, 3, none⟩ (.slice Ao53 t709.length co53)) w.heap.size (fun _ => True) (.slice Ao52 t706.length co52) t706) := ⟨by exact sT (Kd.S_mono (Kd.S_far (p := ⟨gb712, 3, none⟩) (Kd.S_far (p := ⟨gb712, 2, none⟩) (Kd.S_far (p := ⟨gb712, 1, none⟩) (Kd.S_far (p := ⟨gb712, 0, none⟩) (Kd.S_types HO708.out BK712.out (by decide)) (fun _ hk => hk.2) (.int .i64 t704)) (fun _ hk => hk.2) (.int .i64 t705)) (fun _ hk => hk.2) (.slice Ao52 t706.length co52)) (fun _ hk => hk.2) (.slice Ao53 t709.length co53)) (fun _ hk => trivial))⟩
      have n1_ : Aside0 (Kd.S k49 49 ((((w47.setCell ⟨gb712, 0, none⟩ (.int .i64 t704)).setCell ⟨gb712, 1, none⟩ (.int .i64 t705)).setCell ⟨gb712, 2, none⟩ (.slice Ao52 t706.length co52)).setCell ⟨gb712, 3, none⟩ (.slice Ao53 t709.length co53)) w.heap.size (fun k_ => k_ ≠ gb683) (.slice Ao53 t709.length co53) t709) := ⟨by exact sT (Kd.S_mono (Kd.S_far (p := ⟨gb712, 3, none⟩) (Kd.S_far (p := ⟨gb712, 2, none⟩) (Kd.S_far (p := ⟨gb712, 1, none⟩) (Kd.S_far (p := ⟨gb712, 0, none⟩) (Kd.S_types HO711.out BK712.out (by decide)) (fun _ hk => hk.2) (.int .i64 t704)) (fun _ hk => hk.2) (.int .i64 t705)) (fun _ hk => hk.2) (.slice Ao52 t706.length co52)) (fun _ hk => hk.2) (.slice Ao53 t709.length co53)) (fun _ hk => hk.1.2))⟩
      have n2_ : Aside0 (((((w47.setCell ⟨gb712, 0, none⟩ (.int .i64 t704)).setCell ⟨gb712, 1, none⟩ (.int .i64 t705)).setCell ⟨gb712, 2, none⟩ (.slice Ao52 t706.length co52)).setCell ⟨gb712, 3, none⟩ (.slice Ao53 t709.length co53)).heap[gb682]? = some (.cells #[.int .i64 a0_0, .int .i64 a0_1, .slice A0_2 l0_2.length c0_2, .slice A0_3 l0_3.length c0_3] 30 (0, 0))) := ⟨kS⟩
      have n3_ : Aside0 (((((w47.setCell ⟨gb712, 0, none⟩ (.int .i64 t704)).setCell ⟨gb712, 1, none⟩ (.int .i64 t705)).setCell ⟨gb712, 2, none⟩ (.slice Ao52 t706.length co52)).setCell ⟨gb712, 3, none⟩ (.slice Ao53 t709.length co53)).heap[gb683]? = some (.cells #[.slice A1_0 l1_0.length c1_0, .int .i64 a1_1, .int .i64 a1_2, .int .i64 a1_3, .int .i64 a1_4, .int .i64 a1_5] 49 (0, 0))) := ⟨kS⟩
      have n4_ : Aside0 (((((w47.setCell ⟨gb712, 0, none⟩ (.int .i64 t704)).setCell ⟨gb712, 1, none⟩ (.int .i64 t705)).setCell ⟨gb712, 2, none⟩ (.slice Ao52 t706.length co52)).setCell ⟨gb712, 3, none⟩ (.slice Ao53 t709.length co53)).heap[gb684]? = some (.cells #[.int .i64 0, .int .i64 0, .slice none 0 0, .slice none 0 0] 30 (0, 0))) := ⟨kS⟩
      have n5_ : Aside0 (((((w47.setCell ⟨gb712, 0, none⟩ (.int .i64 t704)).setCell ⟨gb712, 1, none⟩ (.int .i64 t705)).setCell ⟨gb712, 2, none⟩ (.slice Ao52 t706.length co52)).setCell ⟨gb712, 3, none⟩ (.slice Ao53 t709.length co53)).heap[gb712]? = some (.cells #[.int .i64 t704, .int .i64 t705, .slice Ao52 t706.length co52, .slice Ao53 t709.length co53] 30 (0, 0))) := ⟨kS⟩
      have n6_ : Aside0 (Below w.heap.size w ((((w47.setCell ⟨gb712, 0, none⟩ (.int .i64 t704)).setCell ⟨gb712, 1, none⟩ (.int .i64 t705)).setCell ⟨gb712, 2, none⟩ (.slice Ao52 t706.length co52)).setCell ⟨gb712, 3, none⟩ (.slice Ao53 t709.length co53))) := ⟨bS⟩
      (try clear HO708)
      (try clear HO711)
      (try clear BK682)
      (try clear BK683)
      (try clear BK684)
      (try clear BK712)
      (try clear HB)
      generalize ((((w47.setCell ⟨gb712, 0, none⟩ (.int .i64 t704)).setCell ⟨gb712, 1, none⟩ (.int .i64 t705)).setCell ⟨gb712, 2, none⟩ (.slice Ao52 t706.length co52)).setCell ⟨gb712, 3, none⟩ (.slice Ao53 t709.length co53)) = w54 at n0_ n1_ n2_ n3_ n4_ n5_ n6_ ⊢
      have HO708 := n0_
      have HO711 := n1_
      have BK682 := n2_
      have BK683 := n3_
      have BK684 := n4_
      have BK712 := n5_
      have HB := n6_
      clear n0_ n1_ n2_ n3_ n4_ n5_ n6_
      replace HO708 := aM (Kd.S_drew HO708.out)
      replace HO711 := aM (Kd.S_drew HO711.out)
      replace BK682 := aM (blk_drew BK682.out)
      replace BK683 := aM (blk_drew BK683.out)
      replace BK684 := aM (blk_drew BK684.out)
      replace BK712 := aM (blk_drew BK712.out)
      replace HB := aM (below_drew1 HB.out)
      refine start_ (n := 8) (S := fun w' => w'.cell? ⟨gb682, 0, none⟩ = some (.int .i64 a0_0) ∧ w'.cell? ⟨gb682, 1, none⟩ = some (.int .i64 a0_1) ∧ w'.cell? ⟨gb682, 2, none⟩ = some (.slice A0_2 l0_2.length c0_2) ∧ w'.cell? ⟨gb682, 3, none⟩ = some (.slice A0_3 l0_3.length c0_3) ∧ w'.cell? ⟨gb683, 0, none⟩ = some (.slice A1_0 l1_0.length c1_0) ∧ w'.cell? ⟨gb683, 1, none⟩ = some (.int .i64 a1_1) ∧ w'.cell? ⟨gb683, 2, none⟩ = some (.int .i64 a1_2) ∧ w'.cell? ⟨gb683, 3, none⟩ = some (.int .i64 a1_3) ∧ w'.cell? ⟨gb683, 4, none⟩ = some (.int .i64 a1_4) ∧ w'.cell? ⟨gb683, 5, none⟩ = some (.int .i64 a1_5)) (ds := []) (mB 8 0) (by kernel_rfl) rfl rfl (cx4 BK682 (cy6 BK683)) (fun hHeld => ?_); refine with_tabW impl_AddToBand.tab6 impl_AddToBand.bits6 (fun HT_ HW_ => ?_)
      generalize w54.drew = w55 at HO708 HO711 BK682 BK683 BK684 BK712 HB hHeld ⊢
      refine pU 3 (some 31) (mB 8 8) ?_
      refine tK 0 (some 28) (mB 8 9) ?_
      refine tK 4 (some 32) (mB 8 25) ?_
      refine pU 5 (some 33) (mB 8 57) ?_
      refine one_ (i := 1) (N := some 29) (mB 8 59) rfl rfl (one_of HT_.out (by kernel_rfl)) (by decide) (fun K hK => ?_)
      refine goes_ Tryz.func66 (by kernel_rfl) rfl #[.agg #[.int .i64 a0_0, .int .i64 a0_1, .slice A0_2 l0_2.length c0_2, .slice A0_3 l0_3.length c0_3]] (by rfl) rfl rfl mA ?_
      with_reducible refine (impl_BandCells.calls kj2 a0_0 a0_1 _ _ l0_2 _ _ l0_3 t713 _ ?side1 ?side2 ?side3 ?side4 A34.out).mono ?_
      (case side1 => exact cS (Kd.C_below HR0_2.out HB.out))
      (case side2 => exact HC0_2.out)
      (case side3 => exact cS (Kd.C_below HR0_3.out HB.out))
      (case side4 => exact HC0_3.out)
      rintro e w56 ⟨rfl, hb⟩
      refine ⟨_, rfl, ?_⟩
      replace HO708 := sB HO708 hb
      replace HO711 := sB HO711 hb
      replace BK682 := kB_ gb682 hb
      replace BK683 := kB_ gb683 hb
      replace BK684 := kB_ gb684 hb
      replace BK712 := kB_ gb712 hb
      replace HB := hB hb
      (try clear hb)
      (try clear hb2)
      (try clear hk)
      (try clear hi)
      refine hK.out _ _ (cx4 BK682 (cy6 BK683)) (fun hHeld => ?_)
      clear hK K
      refine norm_ (a' := ?_) ?_ ?_
      rotate_left
      ·show Act.put _ (some 29) _ = _
       simp only [Act.put, List.setIfInBounds_toArray, List.set_cons_zero, List.set_cons_succ, i64_w, i32_w]
       rfl
      refine pU 2 (some 30) (mB 8 63) ?_
      refine pU 6 (some 34) (mB 8 127) ?_
      refine pU 7 (some 35) (mB 8 255) ?_
      refine done_ (done_of HT_.out (by kernel_rfl)) ?_
      have hz57 := cz4 BK682
      try go_wp2_with (first | ((with_reducible refine gC 18 ?_); refine cM (some 37) Tryz.func18 (impl_MergeBand.calls kj2 a0_0 a0_1 _ _ l0_2 _ _ l0_3 t714 t715 t716 t719 _ (cC HR0_2 HB) HC0_2.out (cC HR0_3 HB) HC0_3.out A36.out) ?_; rintro e w58 ⟨v717, v720, rfl, ho0, ho1, hb⟩; refine ⟨_, rfl, ?_⟩; have HO718 := aM (Kd.S_lower (Kd.S_new' ho0 (Kd.S_lt (sS HO708))) (below_size bS)); have HO721 := aM (Kd.S_lower (Kd.S_newB (Kd.S_new' ho1 (Kd.S_lt (sS HO711))) (g := gb683) kS) (below_size bS)); replace HO708 := aM (Kd.S_elder' (sS HO708) (Kd.S_base ho0) hb); replace HO711 := aM (Kd.S_elder' (sS HO711) (Kd.S_base ho1) hb); replace BK682 := kB_ gb682 hb; replace BK683 := kB_ gb683 hb; replace BK684 := kB_ gb684 hb; replace BK712 := kB_ gb712 hb; replace HB := hB hb; (try clear hb ho0 ho1); have hz59 := cz4 BK712; obtain ⟨Ao60, co60, eo60⟩ := Kd.S_slice HO718.out; subst eo60; obtain ⟨Ao61, co61, eo61⟩ := Kd.S_slice HO721.out; subst eo61))
      have n0_ : Aside0 (Kd.S (Kd.slice 3 (Kd.int .i64)) 54 ((((w58.setCell ⟨gb712, 0, none⟩ (.int .i64 t714)).setCell ⟨gb712, 1, none⟩ (.int .i64 t715)).setCell ⟨gb712, 2, none⟩ (.slice Ao60 t716.length co60)).setCell ⟨gb712, 3, none⟩ (.slice Ao61 t719.length co61)) w.heap.size (fun k_ => some k_ ≠ (.slice Ao60 t716.length co60 : Value).ownBlock) (.slice Ao52 t706.length co52) t706) := ⟨by exact sT (Kd.S_mono (Kd.S_far (p := ⟨gb712, 3, none⟩) (Kd.S_far (p := ⟨gb712, 2, none⟩) (Kd.S_far (p := ⟨gb712, 1, none⟩) (Kd.S_far (p := ⟨gb712, 0, none⟩) (Kd.S_types HO708.out BK712.out (by decide)) (fun _ hk => hk.2) (.int .i64 t714)) (fun _ hk => hk.2) (.int .i64 t715)) (fun _ hk => hk.2) (.slice Ao60 t716.length co60)) (fun _ hk => hk.2) (.slice Ao61 t719.length co61)) (fun _ hk => hk.1.2))⟩
      have n1_ : Aside0 (Kd.S k49 49 ((((w58.setCell ⟨gb712, 0, none⟩ (.int .i64 t714)).setCell ⟨gb712, 1, none⟩ (.int .i64 t715)).setCell ⟨gb712, 2, none⟩ (.slice Ao60 t716.length co60)).setCell ⟨gb712, 3, none⟩ (.slice Ao61 t719.length co61)) w.heap.size (fun k_ => some k_ ≠ (.slice Ao61 t719.length co61 : Value).ownBlock ∧ k_ ≠ gb683) (.slice Ao53 t709.length co53) t709) := ⟨by exact sT (Kd.S_mono (Kd.S_far (p := ⟨gb712, 3, none⟩) (Kd.S_far (p := ⟨gb712, 2, none⟩) (Kd.S_far (p := ⟨gb712, 1, none⟩) (Kd.S_far (p := ⟨gb712, 0, none⟩) (Kd.S_types HO711.out BK712.out (by decide)) (fun _ hk => hk.2) (.int .i64 t714)) (fun _ hk => hk.2) (.int .i64 t715)) (fun _ hk => hk.2) (.slice Ao60 t716.length co60)) (fun _ hk => hk.2) (.slice Ao61 t719.length co61)) (fun _ hk => ⟨hk.1.2, hk.1.1⟩))⟩
      have n2_ : Aside0 (Kd.S (Kd.slice 3 (Kd.int .i64)) 54 ((((w58.setCell ⟨gb712, 0, none⟩ (.int .i64 t714)).setCell ⟨gb712, 1, none⟩ (.int .i64 t715)).setCell ⟨gb712, 2, none⟩ (.slice Ao60 t716.length co60)).setCell ⟨gb712, 3, none⟩ (.slice Ao61 t719.length co61)) w.heap.size (fun k_ => some k_ ≠ (.slice Ao52 t706.length co52 : Value).ownBlock) (.slice Ao60 t716.length co60) t716) := ⟨by exact sT (Kd.S_mono (Kd.S_far (p := ⟨gb712, 3, none⟩) (Kd.S_far (p := ⟨gb712, 2, none⟩) (Kd.S_far (p := ⟨gb712, 1, none⟩) (Kd.S_far (p := ⟨gb712, 0, none⟩) (Kd.S_types HO718.out BK712.out (by decide)) (fun _ hk => hk.2) (.int .i64 t714)) (fun _ hk => hk.2) (.int .i64 t715)) (fun _ hk => hk.2) (.slice Ao60 t716.length co60)) (fun _ hk => hk.2) (.slice Ao61 t719.length co61)) (fun _ hk => hk.1.2))⟩
      have n3_ : Aside0 (Kd.S k49 49 ((((w58.setCell ⟨gb712, 0, none⟩ (.int .i64 t714)).setCell ⟨gb712, 1, none⟩ (.int .i64 t715)).setCell ⟨gb712, 2, none⟩ (.slice Ao60 t716.length co60)).setCell ⟨gb712, 3, none⟩ (.slice Ao61 t719.length co61)) w.heap.size (fun k_ => some k_ ≠ (.slice Ao53 t709.length co53 : Value).ownBlock ∧ k_ ≠ gb683) (.slice Ao61 t719.length co61) t719) := ⟨by exact sT (Kd.S_mono (Kd.S_far (p := ⟨gb712, 3, none⟩) (Kd.S_far (p := ⟨gb712, 2, none⟩) (Kd.S_far (p := ⟨gb712, 1, none⟩) (Kd.S_far (p := ⟨gb712, 0, none⟩) (Kd.S_types HO721.out BK712.out (by decide)) (fun _ hk => hk.2) (.int .i64 t714)) (fun _ hk => hk.2) (.int .i64 t715)) (fun _ hk => hk.2) (.slice Ao60 t716.length co60)) (fun _ hk => hk.2) (.slice Ao61 t719.length co61)) (fun _ hk => ⟨hk.1.1.2, hk.1.2⟩))⟩
      have n4_ : Aside0 (((((w58.setCell ⟨gb712, 0, none⟩ (.int .i64 t714)).setCell ⟨gb712, 1, none⟩ (.int .i64 t715)).setCell ⟨gb712, 2, none⟩ (.slice Ao60 t716.length co60)).setCell ⟨gb712, 3, none⟩ (.slice Ao61 t719.length co61)).heap[gb682]? = some (.cells #[.int .i64 a0_0, .int .i64 a0_1, .slice A0_2 l0_2.length c0_2, .slice A0_3 l0_3.length c0_3] 30 (0, 0))) := ⟨kS⟩
      have n5_ : Aside0 (((((w58.setCell ⟨gb712, 0, none⟩ (.int .i64 t714)).setCell ⟨gb712, 1, none⟩ (.int .i64 t715)).setCell ⟨gb712, 2, none⟩ (.slice Ao60 t716.length co60)).setCell ⟨gb712, 3, none⟩ (.slice Ao61 t719.length co61)).heap[gb683]? = some (.cells #[.slice A1_0 l1_0.length c1_0, .int .i64 a1_1, .int .i64 a1_2, .int .i64 a1_3, .int .i64 a1_4, .int .i64 a1_5] 49 (0, 0))) := ⟨kS⟩
      have n6_ : Aside0 (((((w58.setCell ⟨gb712, 0, none⟩ (.int .i64 t714)).setCell ⟨gb712, 1, none⟩ (.int .i64 t715)).setCell ⟨gb712, 2, none⟩ (.slice Ao60 t716.length co60)).setCell ⟨gb712, 3, none⟩ (.slice Ao61 t719.length co61)).heap[gb684]? = some (.cells #[.int .i64 0, .int .i64 0, .slice none 0 0, .slice none 0 0] 30 (0, 0))) := ⟨kS⟩
      have n7_ : Aside0 (((((w58.setCell ⟨gb712, 0, none⟩ (.int .i64 t714)).setCell ⟨gb712, 1, none⟩ (.int .i64 t715)).setCell ⟨gb712, 2, none⟩ (.slice Ao60 t716.length co60)).setCell ⟨gb712, 3, none⟩ (.slice Ao61 t719.length co61)).heap[gb712]? = some (.cells #[.int .i64 t714, .int .i64 t715, .slice Ao60 t716.length co60, .slice Ao61 t719.length co61] 30 (0, 0))) := ⟨kS⟩
      have n8_ : Aside0 (Below w.heap.size w ((((w58.setCell ⟨gb712, 0, none⟩ (.int .i64 t714)).setCell ⟨gb712, 1, none⟩ (.int .i64 t715)).setCell ⟨gb712, 2, none⟩ (.slice Ao60 t716.length co60)).setCell ⟨gb712, 3, none⟩ (.slice Ao61 t719.length co61))) := ⟨bS⟩
      (try clear HO708)
      (try clear HO711)
      (try clear HO718)
      (try clear HO721)
      (try clear BK682)
      (try clear BK683)
      (try clear BK684)
      (try clear BK712)
      (try clear HB)
      generalize ((((w58.setCell ⟨gb712, 0, none⟩ (.int .i64 t714)).setCell ⟨gb712, 1, none⟩ (.int .i64 t715)).setCell ⟨gb712, 2, none⟩ (.slice Ao60 t716.length co60)).setCell ⟨gb712, 3, none⟩ (.slice Ao61 t719.length co61)) = w62 at n0_ n1_ n2_ n3_ n4_ n5_ n6_ n7_ n8_ ⊢
      have HO708 := n0_
      have HO711 := n1_
      have HO718 := n2_
      have HO721 := n3_
      have BK682 := n4_
      have BK683 := n5_
      have BK684 := n6_
      have BK712 := n7_
      have HB := n8_
      clear n0_ n1_ n2_ n3_ n4_ n5_ n6_ n7_ n8_
      replace HO708 := aM (Kd.S_drew HO708.out)
      replace HO711 := aM (Kd.S_drew HO711.out)
      replace HO718 := aM (Kd.S_drew HO718.out)
      replace HO721 := aM (Kd.S_drew HO721.out)
      replace BK682 := aM (blk_drew BK682.out)
      replace BK683 := aM (blk_drew BK683.out)
      replace BK684 := aM (blk_drew BK684.out)
      replace BK712 := aM (blk_drew BK712.out)
      replace HB := aM (below_drew1 HB.out)
      refine start_ (n := 8) (S := fun w' => w'.cell? ⟨gb712, 0, none⟩ = some (.int .i64 t714) ∧ w'.cell? ⟨gb712, 1, none⟩ = some (.int .i64 t715) ∧ w'.cell? ⟨gb712, 2, none⟩ = some (.slice Ao60 t716.length co60) ∧ w'.cell? ⟨gb712, 3, none⟩ = some (.slice Ao61 t719.length co61) ∧ w'.cell? ⟨gb683, 0, none⟩ = some (.slice A1_0 l1_0.length c1_0) ∧ w'.cell? ⟨gb683, 1, none⟩ = some (.int .i64 a1_1) ∧ w'.cell? ⟨gb683, 2, none⟩ = some (.int .i64 a1_2) ∧ w'.cell? ⟨gb683, 3, none⟩ = some (.int .i64 a1_3) ∧ w'.cell? ⟨gb683, 4, none⟩ = some (.int .i64 a1_4) ∧ w'.cell? ⟨gb683, 5, none⟩ = some (.int .i64 a1_5)) (ds := [7]) (mB 8 0) (by kernel_rfl) rfl rfl (cx4 BK712 (cy6 BK683)) (fun hHeld => ?_); refine with_tabW impl_AddToBand.tab8 impl_AddToBand.bits8 (fun HT_ HW_ => ?_)
      generalize w62.drew = w63 at HO708 HO711 HO718 HO721 BK682 BK683 BK684 BK712 HB hHeld ⊢
      refine pU 0 (some 38) (mB 8 1) ?_
      refine tK 1 (some 39) (mB 8 3) ?_
      refine tK 2 (some 40) (mB 8 7) ?_
      refine one_ (i := 3) (N := some 41) (mB 8 15) rfl rfl (one_of HT_.out (by kernel_rfl)) (by decide) (fun K hK => ?_)
      refine goes_ Tryz.func67 (by kernel_rfl) rfl #[.agg #[.slice A1_0 l1_0.length c1_0, .int .i64 a1_1, .int .i64 a1_2, .int .i64 a1_3, .int .i64 a1_4, .int .i64 a1_5]] (by rfl) rfl rfl mA ?_
      with_reducible refine (impl_copyObject.calls _ _ l1_0 a1_1 a1_2 a1_3 a1_4 a1_5 t722 t725 t726 t727 t728 t729 _ ?side1 ?side2 A37.out).mono ?_
      (case side1 => exact cS (Kd.C_below HR1_0.out HB.out))
      (case side2 => exact HC1_0.out)
      rintro e w64 ⟨v723, rfl, ho0, hb⟩
      refine ⟨_, rfl, ?_⟩
      have HO724 := aM (Kd.R_lower ho0 (below_size bS))
      replace HO708 := sB HO708 hb
      replace HO711 := aM (Kd.S_elder' (sS HO711) (Kd.R_base ho0) hb)
      replace HO718 := sB HO718 hb
      replace HO721 := aM (Kd.S_elder' (sS HO721) (Kd.R_base ho0) hb)
      replace BK682 := kB_ gb682 hb
      replace BK683 := kB_ gb683 hb
      replace BK684 := kB_ gb684 hb
      replace BK712 := kB_ gb712 hb
      replace HB := hB hb
      (try clear hb)
      (try clear hb2)
      (try clear hk)
      (try clear hi)
      (try clear ho0)
      obtain ⟨Ao66, co66, eo66⟩ := Kd.R_slice HO724.out
      (first | subst eo66 | obtain ⟨rfl, rfl⟩ := slE eo66)
      refine hK.out _ _ (cx4 BK712 (cy6 BK683)) (fun hHeld => ?_)
      clear hK K
      refine norm_ (a' := ?_) ?_ ?_
      rotate_left
      ·show Act.put _ (some 41) _ = _
       simp only [Act.put, List.setIfInBounds_toArray, List.set_cons_zero, List.set_cons_succ, i64_w, i32_w]
       rfl
      refine one_ (i := 4) (N := some 42) (mB 8 31) rfl rfl (one_of HT_.out (by kernel_rfl)) (by decide) (fun K hK => ?_)
      refine value_ (w1 := ?_) (v := ?_) (by rfl) rfl ?_ ?_
      rotate_left 2
      ·go_simp
       constructor
       ·rfl
       ·rfl
      refine hK.out _ _ ⟨(blk_cell (blk_alloc BK712.out _) 0).trans rfl, (blk_cell (blk_alloc BK712.out _) 1).trans rfl, (blk_cell (blk_alloc BK712.out _) 2).trans rfl, (blk_cell (blk_alloc BK712.out _) 3).trans rfl, (blk_cell (blk_alloc BK683.out _) 0).trans rfl, (blk_cell (blk_alloc BK683.out _) 1).trans rfl, (blk_cell (blk_alloc BK683.out _) 2).trans rfl, (blk_cell (blk_alloc BK683.out _) 3).trans rfl, (blk_cell (blk_alloc BK683.out _) 4).trans rfl, (blk_cell (blk_alloc BK683.out _) 5).trans rfl⟩ (fun hHeld => ?_)
      clear hK K
      refine norm_ (a' := ?_) ?_ ?_
      rotate_left
      ·show Act.put _ (some 42) _ = _
       simp only [Act.put, List.setIfInBounds_toArray, List.set_cons_zero, List.set_cons_succ, i64_w, i32_w]
       rfl
      refine one_ (i := 5) (N := some 43) (mB 8 63) rfl rfl (one_of HT_.out (by kernel_rfl)) (by decide) (fun K hK => ?_)
      refine Kd.S_append_step k49 (w0 := w) w.heap.size (by rfl) (.tmp 39) (.tmp 42) 28 49 (.agg #[(.slice none 0 0), (.int .i64 0), (.int .i64 0), (.int .i64 0), (.int .i64 0), (.int .i64 0)]) 64 rfl Tryz.underlying28 info49 rfl (by decide) (by omega) (.slice Ao61 t719.length co61) t719 (⟨t722, t725, (⟨t726, t727, t728, t729⟩ : S47)⟩ : S49) [.slice Ao66 t722.length co66, .int .i64 t725, .int .i64 t726, .int .i64 t727, .int .i64 t728, .int .i64 t729] (fun k_ => some k_ ≠ (.slice Ao53 t709.length co53 : Value).ownBlock ∧ k_ ≠ gb683) (fun k_ => some k_ = (.slice Ao66 t722.length co66 : Value).ownBlock) rfl rfl ?aP (fun k_ hk_ => ((Kd.R_mono (ok' := fun k_ => ((fun k_ => some k_ ≠ (.slice Ao53 t709.length co53 : Value).ownBlock ∧ k_ ≠ gb683)) k_ ∧ some k_ ≠ (.slice Ao61 t719.length co61 : Value).ownBlock) (Kd.R_types (Kd.R_apart' (Kd.R_apart' (HO724.out) (Kd.S_typed HO711.out) (by decide)) (Kd.S_typed HO721.out) (by decide)) BK683.out (by decide)) (fun k_ hk => ⟨⟨hk.1.1.2, hk.2⟩, hk.1.2⟩))).1 k_ hk_.symm) ?aF ?aO ?aB ?aS ?aL ?_
      (case aP => exact k49_mkM _ _ _ (⟨t722, t725, (⟨t726, t727, t728, t729⟩ : S47)⟩ : S49) (Kd.R_mono (Kd.R_tight rfl (Kd.R_mono (ok' := fun k_ => ((fun k_ => some k_ ≠ (.slice Ao53 t709.length co53 : Value).ownBlock ∧ k_ ≠ gb683)) k_ ∧ some k_ ≠ (.slice Ao61 t719.length co61 : Value).ownBlock) (Kd.R_types (Kd.R_apart' (Kd.R_apart' (HO724.out) (Kd.S_typed HO711.out) (by decide)) (Kd.S_typed HO721.out) (by decide)) BK683.out (by decide)) (fun k_ hk => ⟨⟨hk.1.1.2, hk.2⟩, hk.1.2⟩))) (fun _ h_ => h_)))
      (case aB => exact bS)
      (case aF => exact (fun k_ hk => ⟨Kd.fresh' (Kd.S_lt (sS HO711)) k_ hk, Kd.freshB (g := gb683) kS k_ hk⟩))
      (case aO => exact (by exact sT (Kd.S_mono HO721.out (fun k_ hk => ⟨⟨hk.1.1, hk.1.2⟩, fun e_ => hk.2 e_⟩))))
      (case aS => exact (below_size bS))
      (case aL => have := LMc38.out; omega)
      intro v731 w65 ho hb hg hat
      rw [← Ny730.out] at ho
      have HO732 := aM (ho)
      replace BK682 := aM (blk_grown (g := gb682) kS hg (Kd.S_ne HO721.out BK682.out (by decide)))
      replace BK683 := aM (blk_grown (g := gb683) kS hg (Kd.S_away HO721.out (fun _ hk => hk.1.2)))
      replace BK684 := aM (blk_grown (g := gb684) kS hg (Kd.S_ne HO721.out BK684.out (by decide)))
      replace HO708 := aM (Kd.S_over' (sS HO708) (Kd.S_typed (sS HO721)) (by decide) hg)
      replace HO711 := aM (Kd.S_after (ok := (fun k_ => some k_ ≠ (.slice Ao66 t722.length co66 : Value).ownBlock ∧ k_ ≠ gb683)) (by exact sM HO711) hg hat)
      replace BK712 := aM (blk_grown (g := gb712) kS hg (Kd.S_ne HO721.out BK712.out (by decide)))
      replace HO718 := aM (Kd.S_over' (sS HO718) (Kd.S_typed (sS HO721)) (by decide) hg)
      replace HB := aM (hb)
      clear HO721 HO724
      clear ho hb hg hat
      obtain ⟨Ao67, co67, eo67⟩ := Kd.S_slice HO732.out
      (first | subst eo67 | obtain ⟨rfl, rfl⟩ := slE eo67)
      refine hK.out _ _ (cx4 BK712 (cy6 BK683)) (fun hHeld => ?_)
      clear hK K
      refine norm_ (a' := ?_) ?_ ?_
      rotate_left
      ·show Act.put _ (some 43) _ = _
       simp only [Act.put, List.setIfInBounds_toArray, List.set_cons_zero, List.set_cons_succ, i64_w, i32_w]
       rfl
      refine pU 6 (some 44) (mB 8 127) ?_
      refine last_ (i := 7) (N := none) (mB 8 255) rfl rfl (one_of HT_.out (by kernel_rfl)) (by decide) (fun K hK => ?_)
      have hs68 := cg3 BK712
      have hfs68 := blk_frozen BK712.out 3
      have hns68_0 := NB682_712.out
      have hns68_1 := NB683_712.out
      have hns68_2 := NB684_712.out
      have hms68_0 := NB712_682.out
      have hms68_1 := NB712_683.out
      have hms68_2 := NB712_684.out
      refine skip_ (w1 := ?_) (by rfl) rfl ?_ ?_
      rotate_left
      ·go_simp
       rfl
      refine hK.out _ _ ?_
      clear hK K
      refine done_ (done_of HT_.out (by kernel_rfl)) ?_
      have hz69 := cz4 BK712
      have hz70 := cz4 BK684
      try go_wp2
      refine bodyPost_ret (results_ct rfl _ _ gb684 30 #[.int .i64 t714, .int .i64 t715, .slice Ao60 t716.length co60, .slice Ao67 y730.length co67] (0, 0) _ rfl kS Tryz.underlying30 rfl (by kernel_rfl)) rfl ?_
      exact ⟨_, _, eS, by exact sT (Kd.S_mono (Kd.S_far (p := ⟨gb684, 3, none⟩) (Kd.S_far (p := ⟨gb684, 2, none⟩) (Kd.S_far (p := ⟨gb684, 1, none⟩) (Kd.S_far (p := ⟨gb684, 0, none⟩) (Kd.S_far (p := ⟨gb712, 3, none⟩) (Kd.S_types (Kd.S_types HO718.out BK712.out (by decide)) BK684.out (by decide)) (fun _ hk => hk.1.2) (.slice Ao67 y730.length co67)) (fun _ hk => hk.2) (.int .i64 t714)) (fun _ hk => hk.2) (.int .i64 t715)) (fun _ hk => hk.2) (.slice Ao60 t716.length co60)) (fun _ hk => hk.2) (.slice Ao67 y730.length co67)) (fun _ hk => trivial)), by exact sT (Kd.S_mono (Kd.S_far (p := ⟨gb684, 3, none⟩) (Kd.S_far (p := ⟨gb684, 2, none⟩) (Kd.S_far (p := ⟨gb684, 1, none⟩) (Kd.S_far (p := ⟨gb684, 0, none⟩) (Kd.S_far (p := ⟨gb712, 3, none⟩) (Kd.S_types (Kd.S_types HO732.out BK712.out (by decide)) BK684.out (by decide)) (fun _ hk => hk.1.2) (.slice Ao67 y730.length co67)) (fun _ hk => hk.2) (.int .i64 t714)) (fun _ hk => hk.2) (.int .i64 t715)) (fun _ hk => hk.2) (.slice Ao60 t716.length co60)) (fun _ hk => hk.2) (.slice Ao67 y730.length co67)) (fun _ hk => trivial)), bS⟩
     ·rw [if_neg c35] at H
      have c35b0 : decide (60 < (wrap64 ((wrap64 (t713 + 2)) + (l1_0.length : Int)))) = false := decide_eq_false c35
      clear c35
      replace H := bN H
      obtain ⟨⟨t733, t736, t737, t738, t739, t740⟩, A71, H⟩ := H
      obtain ⟨LMc72, H⟩ := iL H
      obtain ⟨y741, hy_⟩ : ∃ y_ : List (S49), y_ = (t709 ++ [(⟨t733, t736, (⟨t737, t738, t739, t740⟩ : S47)⟩ : S49)]) := ⟨_, rfl⟩
      replace H : (some (t704, t705, t706, y741, true)) = some (r1, r2, r3, r4, r5) := yS
      have Ny741 := aM hy_
      clear hy_
      obtain ⟨rfl, rfl, rfl, rfl, rfl⟩ := sI5 H
      have hnb73 := NB683_682.out
      have hnc73 := NB682_683.out
      have hnb74 := NB683_684.out
      have hnc74 := NB684_683.out
      have hz75 := cz6 BK683
      have hnb76 := NB682_684.out
      have hnc76 := NB684_682.out
      have hz77 := cz4 BK682
      try go_wp2_with (first | ((with_reducible refine gC 65 ?_); refine cM (some 22) Tryz.func65 (impl_TouchesBand.calls kj2 _ _ l1_0 a1_1 a1_2 a1_3 a1_4 a1_5 a0_0 a0_1 _ _ (cC HR1_0 HB) HC1_0.out A31.out) ?_; rintro e w78 ⟨rfl, hb⟩; refine ⟨_, rfl, ?_⟩; replace BK682 := kB_ gb682 hb; replace BK683 := kB_ gb683 hb; replace BK684 := kB_ gb684 hb; replace HB := hB hb; (try clear hb); have hz79 := cz4 BK682) | ((with_reducible refine gC 54 ?_); refine cM (some 27) Tryz.func54 (impl_copyBand.calls kj2 a0_0 a0_1 _ _ l0_2 _ _ l0_3 t704 t705 t706 t709 _ (cC HR0_2 HB) HC0_2.out (cC HR0_3 HB) HC0_3.out A33.out) ?_; rintro e w80 ⟨v707, v710, rfl, ho0, ho1, hb⟩; refine ⟨_, rfl, ?_⟩; have HO708 := aM (Kd.S_lower ho0 (below_size bS)); have HO711 := aM (Kd.S_lower (Kd.S_newB ho1 (g := gb683) kS) (below_size bS)); replace BK682 := kB_ gb682 hb; replace BK683 := kB_ gb683 hb; replace BK684 := kB_ gb684 hb; replace HB := hB hb; (try clear hb ho0 ho1)) | ((with_reducible refine gD 6 ?_); refine bxE #[.int .i64 0, .int .i64 0, .slice none 0 0, .slice none 0 0] 30 ?_; intro gb712 hg w81 BK712 hb; have GW712 := gE hg; have GE712 := gE hg; have NB682_712 := nL_ gb682 hg; have NB712_682 := nG_ gb682 hg; have NB683_712 := nL_ gb683 hg; have NB712_683 := nG_ gb683 hg; have NB684_712 := nL_ gb684 hg; have NB712_684 := nG_ gb684 hg; replace HO708 := sB HO708 hb; replace HO711 := sB HO711 hb; replace BK682 := kB_ gb682 hb; replace BK683 := kB_ gb683 hb; replace BK684 := kB_ gb684 hb; replace HB := hB hb; clear hb hg; have hnb82 := NB712_682.out; have hnc82 := NB682_712.out; have hnb83 := NB712_683.out; have hnc83 := NB683_712.out; have hnb84 := NB712_684.out; have hnc84 := NB684_712.out; have hz85 := cz4 BK712; obtain ⟨Ao86, co86, eo86⟩ := Kd.S_slice HO708.out; subst eo86; obtain ⟨Ao87, co87, eo87⟩ := Kd.S_slice HO711.out; subst eo87))
      have n0_ : Aside0 (Kd.S (Kd.slice 3 (Kd.int .i64)) 54 ((((w81.setCell ⟨gb712, 0, none⟩ (.int .i64 t704)).setCell ⟨gb712, 1, none⟩ (.int .i64 t705)).setCell ⟨gb712, 2, none⟩ (.slice Ao86 t706.length co86)).setCell ⟨gb712, 3, none⟩ (.slice Ao87 t709.length co87)) w.heap.size (fun _ => True) (.slice Ao86 t706.length co86) t706) := ⟨by exact sT (Kd.S_mono (Kd.S_far (p := ⟨gb712, 3, none⟩) (Kd.S_far (p := ⟨gb712, 2, none⟩) (Kd.S_far (p := ⟨gb712, 1, none⟩) (Kd.S_far (p := ⟨gb712, 0, none⟩) (Kd.S_types HO708.out BK712.out (by decide)) (fun _ hk => hk.2) (.int .i64 t704)) (fun _ hk => hk.2) (.int .i64 t705)) (fun _ hk => hk.2) (.slice Ao86 t706.length co86)) (fun _ hk => hk.2) (.slice Ao87 t709.length co87)) (fun _ hk => trivial))⟩
      have n1_ : Aside0 (Kd.S k49 49 ((((w81.setCell ⟨gb712, 0, none⟩ (.int .i64 t704)).setCell ⟨gb712, 1, none⟩ (.int .i64 t705)).setCell ⟨gb712, 2, none⟩ (.slice Ao86 t706.length co86)).setCell ⟨gb712, 3, none⟩ (.slice Ao87 t709.length co87)) w.heap.size (fun k_ => k_ ≠ gb683) (.slice Ao87 t709.length co87) t709) := ⟨by exact sT (Kd.S_mono (Kd.S_far (p := ⟨gb712, 3, none⟩) (Kd.S_far (p := ⟨gb712, 2, none⟩) (Kd.S_far (p := ⟨gb712, 1, none⟩) (Kd.S_far (p := ⟨gb712, 0, none⟩) (Kd.S_types HO711.out BK712.out (by decide)) (fun _ hk => hk.2) (.int .i64 t704)) (fun _ hk => hk.2) (.int .i64 t705)) (fun _ hk => hk.2) (.slice Ao86 t706.length co86)) (fun _ hk => hk.2) (.slice Ao87 t709.length co87)) (fun _ hk => hk.1.2))⟩
      have n2_ : Aside0 (((((w81.setCell ⟨gb712, 0, none⟩ (.int .i64 t704)).setCell ⟨gb712, 1, none⟩ (.int .i64 t705)).setCell ⟨gb712, 2, none⟩ (.slice Ao86 t706.length co86)).setCell ⟨gb712, 3, none⟩ (.slice Ao87 t709.length co87)).heap[gb682]? = some (.cells #[.int .i64 a0_0, .int .i64 a0_1, .slice A0_2 l0_2.length c0_2, .slice A0_3 l0_3.length c0_3] 30 (0, 0))) := ⟨kS⟩
      have n3_ : Aside0 (((((w81.setCell ⟨gb712, 0, none⟩ (.int .i64 t704)).setCell ⟨gb712, 1, none⟩ (.int .i64 t705)).setCell ⟨gb712, 2, none⟩ (.slice Ao86 t706.length co86)).setCell ⟨gb712, 3, none⟩ (.slice Ao87 t709.length co87)).heap[gb683]? = some (.cells #[.slice A1_0 l1_0.length c1_0, .int .i64 a1_1, .int .i64 a1_2, .int .i64 a1_3, .int .i64 a1_4, .int .i64 a1_5] 49 (0, 0))) := ⟨kS⟩
      have n4_ : Aside0 (((((w81.setCell ⟨gb712, 0, none⟩ (.int .i64 t704)).setCell ⟨gb712, 1, none⟩ (.int .i64 t705)).setCell ⟨gb712, 2, none⟩ (.slice Ao86 t706.length co86)).setCell ⟨gb712, 3, none⟩ (.slice Ao87 t709.length co87)).heap[gb684]? = some (.cells #[.int .i64 0, .int .i64 0, .slice none 0 0, .slice none 0 0] 30 (0, 0))) := ⟨kS⟩
      have n5_ : Aside0 (((((w81.setCell ⟨gb712, 0, none⟩ (.int .i64 t704)).setCell ⟨gb712, 1, none⟩ (.int .i64 t705)).setCell ⟨gb712, 2, none⟩ (.slice Ao86 t706.length co86)).setCell ⟨gb712, 3, none⟩ (.slice Ao87 t709.length co87)).heap[gb712]? = some (.cells #[.int .i64 t704, .int .i64 t705, .slice Ao86 t706.length co86, .slice Ao87 t709.length co87] 30 (0, 0))) := ⟨kS⟩
      have n6_ : Aside0 (Below w.heap.size w ((((w81.setCell ⟨gb712, 0, none⟩ (.int .i64 t704)).setCell ⟨gb712, 1, none⟩ (.int .i64 t705)).setCell ⟨gb712, 2, none⟩ (.slice Ao86 t706.length co86)).setCell ⟨gb712, 3, none⟩ (.slice Ao87 t709.length co87))) := ⟨bS⟩
      (try clear HO708)
      (try clear HO711)
      (try clear BK682)
      (try clear BK683)
      (try clear BK684)
      (try clear BK712)
      (try clear HB)
      generalize ((((w81.setCell ⟨gb712, 0, none⟩ (.int .i64 t704)).setCell ⟨gb712, 1, none⟩ (.int .i64 t705)).setCell ⟨gb712, 2, none⟩ (.slice Ao86 t706.length co86)).setCell ⟨gb712, 3, none⟩ (.slice Ao87 t709.length co87)) = w88 at n0_ n1_ n2_ n3_ n4_ n5_ n6_ ⊢
      have HO708 := n0_
      have HO711 := n1_
      have BK682 := n2_
      have BK683 := n3_
      have BK684 := n4_
      have BK712 := n5_
      have HB := n6_
      clear n0_ n1_ n2_ n3_ n4_ n5_ n6_
      replace HO708 := aM (Kd.S_drew HO708.out)
      replace HO711 := aM (Kd.S_drew HO711.out)
      replace BK682 := aM (blk_drew BK682.out)
      replace BK683 := aM (blk_drew BK683.out)
      replace BK684 := aM (blk_drew BK684.out)
      replace BK712 := aM (blk_drew BK712.out)
      replace HB := aM (below_drew1 HB.out)
      refine start_ (n := 8) (S := fun w' => w'.cell? ⟨gb682, 0, none⟩ = some (.int .i64 a0_0) ∧ w'.cell? ⟨gb682, 1, none⟩ = some (.int .i64 a0_1) ∧ w'.cell? ⟨gb682, 2, none⟩ = some (.slice A0_2 l0_2.length c0_2) ∧ w'.cell? ⟨gb682, 3, none⟩ = some (.slice A0_3 l0_3.length c0_3) ∧ w'.cell? ⟨gb683, 0, none⟩ = some (.slice A1_0 l1_0.length c1_0) ∧ w'.cell? ⟨gb683, 1, none⟩ = some (.int .i64 a1_1) ∧ w'.cell? ⟨gb683, 2, none⟩ = some (.int .i64 a1_2) ∧ w'.cell? ⟨gb683, 3, none⟩ = some (.int .i64 a1_3) ∧ w'.cell? ⟨gb683, 4, none⟩ = some (.int .i64 a1_4) ∧ w'.cell? ⟨gb683, 5, none⟩ = some (.int .i64 a1_5)) (ds := []) (mB 8 0) (by kernel_rfl) rfl rfl (cx4 BK682 (cy6 BK683)) (fun hHeld => ?_); refine with_tabW impl_AddToBand.tab6 impl_AddToBand.bits6 (fun HT_ HW_ => ?_)
      generalize w88.drew = w89 at HO708 HO711 BK682 BK683 BK684 BK712 HB hHeld ⊢
      refine pU 3 (some 31) (mB 8 8) ?_
      refine tK 0 (some 28) (mB 8 9) ?_
      refine tK 4 (some 32) (mB 8 25) ?_
      refine pU 5 (some 33) (mB 8 57) ?_
      refine one_ (i := 1) (N := some 29) (mB 8 59) rfl rfl (one_of HT_.out (by kernel_rfl)) (by decide) (fun K hK => ?_)
      refine goes_ Tryz.func66 (by kernel_rfl) rfl #[.agg #[.int .i64 a0_0, .int .i64 a0_1, .slice A0_2 l0_2.length c0_2, .slice A0_3 l0_3.length c0_3]] (by rfl) rfl rfl mA ?_
      with_reducible refine (impl_BandCells.calls kj2 a0_0 a0_1 _ _ l0_2 _ _ l0_3 t713 _ ?side1 ?side2 ?side3 ?side4 A34.out).mono ?_
      (case side1 => exact cS (Kd.C_below HR0_2.out HB.out))
      (case side2 => exact HC0_2.out)
      (case side3 => exact cS (Kd.C_below HR0_3.out HB.out))
      (case side4 => exact HC0_3.out)
      rintro e w90 ⟨rfl, hb⟩
      refine ⟨_, rfl, ?_⟩
      replace HO708 := sB HO708 hb
      replace HO711 := sB HO711 hb
      replace BK682 := kB_ gb682 hb
      replace BK683 := kB_ gb683 hb
      replace BK684 := kB_ gb684 hb
      replace BK712 := kB_ gb712 hb
      replace HB := hB hb
      (try clear hb)
      (try clear hb2)
      (try clear hk)
      (try clear hi)
      refine hK.out _ _ (cx4 BK682 (cy6 BK683)) (fun hHeld => ?_)
      clear hK K
      refine norm_ (a' := ?_) ?_ ?_
      rotate_left
      ·show Act.put _ (some 29) _ = _
       simp only [Act.put, List.setIfInBounds_toArray, List.set_cons_zero, List.set_cons_succ, i64_w, i32_w]
       rfl
      refine pU 2 (some 30) (mB 8 63) ?_
      refine pU 6 (some 34) (mB 8 127) ?_
      refine pU 7 (some 35) (mB 8 255) ?_
      refine done_ (done_of HT_.out (by kernel_rfl)) ?_
      try go_wp2
      replace HO708 := aM (Kd.S_drew HO708.out)
      replace HO711 := aM (Kd.S_drew HO711.out)
      replace BK682 := aM (blk_drew BK682.out)
      replace BK683 := aM (blk_drew BK683.out)
      replace BK684 := aM (blk_drew BK684.out)
      replace BK712 := aM (blk_drew BK712.out)
      replace HB := aM (below_drew1 HB.out)
      refine start_ (n := 8) (S := fun w' => w'.cell? ⟨gb712, 0, none⟩ = some (.int .i64 t704) ∧ w'.cell? ⟨gb712, 1, none⟩ = some (.int .i64 t705) ∧ w'.cell? ⟨gb712, 2, none⟩ = some (.slice Ao86 t706.length co86) ∧ w'.cell? ⟨gb712, 3, none⟩ = some (.slice Ao87 t709.length co87) ∧ w'.cell? ⟨gb683, 0, none⟩ = some (.slice A1_0 l1_0.length c1_0) ∧ w'.cell? ⟨gb683, 1, none⟩ = some (.int .i64 a1_1) ∧ w'.cell? ⟨gb683, 2, none⟩ = some (.int .i64 a1_2) ∧ w'.cell? ⟨gb683, 3, none⟩ = some (.int .i64 a1_3) ∧ w'.cell? ⟨gb683, 4, none⟩ = some (.int .i64 a1_4) ∧ w'.cell? ⟨gb683, 5, none⟩ = some (.int .i64 a1_5)) (ds := [7]) (mB 8 0) (by kernel_rfl) rfl rfl (cx4 BK712 (cy6 BK683)) (fun hHeld => ?_); refine with_tabW impl_AddToBand.tab8 impl_AddToBand.bits8 (fun HT_ HW_ => ?_)
      generalize w90.drew = w91 at HO708 HO711 BK682 BK683 BK684 BK712 HB hHeld ⊢
      refine pU 0 (some 38) (mB 8 1) ?_
      refine tK 1 (some 39) (mB 8 3) ?_
      refine tK 2 (some 40) (mB 8 7) ?_
      refine one_ (i := 3) (N := some 41) (mB 8 15) rfl rfl (one_of HT_.out (by kernel_rfl)) (by decide) (fun K hK => ?_)
      refine goes_ Tryz.func67 (by kernel_rfl) rfl #[.agg #[.slice A1_0 l1_0.length c1_0, .int .i64 a1_1, .int .i64 a1_2, .int .i64 a1_3, .int .i64 a1_4, .int .i64 a1_5]] (by rfl) rfl rfl mA ?_
      with_reducible refine (impl_copyObject.calls _ _ l1_0 a1_1 a1_2 a1_3 a1_4 a1_5 t733 t736 t737 t738 t739 t740 _ ?side1 ?side2 A71.out).mono ?_
      (case side1 => exact cS (Kd.C_below HR1_0.out HB.out))
      (case side2 => exact HC1_0.out)
      rintro e w92 ⟨v734, rfl, ho0, hb⟩
      refine ⟨_, rfl, ?_⟩
      have HO735 := aM (Kd.R_lower ho0 (below_size bS))
      replace HO708 := sB HO708 hb
      replace HO711 := aM (Kd.S_elder' (sS HO711) (Kd.R_base ho0) hb)
      replace BK682 := kB_ gb682 hb
      replace BK683 := kB_ gb683 hb
      replace BK684 := kB_ gb684 hb
      replace BK712 := kB_ gb712 hb
      replace HB := hB hb
      (try clear hb)
      (try clear hb2)
      (try clear hk)
      (try clear hi)
      (try clear ho0)
      obtain ⟨Ao94, co94, eo94⟩ := Kd.R_slice HO735.out
      (first | subst eo94 | obtain ⟨rfl, rfl⟩ := slE eo94)
      refine hK.out _ _ (cx4 BK712 (cy6 BK683)) (fun hHeld => ?_)
      clear hK K
      refine norm_ (a' := ?_) ?_ ?_
      rotate_left
      ·show Act.put _ (some 41) _ = _
       simp only [Act.put, List.setIfInBounds_toArray, List.set_cons_zero, List.set_cons_succ, i64_w, i32_w]
       rfl
      refine one_ (i := 4) (N := some 42) (mB 8 31) rfl rfl (one_of HT_.out (by kernel_rfl)) (by decide) (fun K hK => ?_)
      refine value_ (w1 := ?_) (v := ?_) (by rfl) rfl ?_ ?_
      rotate_left 2
      ·go_simp
       constructor
       ·rfl
       ·rfl
      refine hK.out _ _ ⟨(blk_cell (blk_alloc BK712.out _) 0).trans rfl, (blk_cell (blk_alloc BK712.out _) 1).trans rfl, (blk_cell (blk_alloc BK712.out _) 2).trans rfl, (blk_cell (blk_alloc BK712.out _) 3).trans rfl, (blk_cell (blk_alloc BK683.out _) 0).trans rfl, (blk_cell (blk_alloc BK683.out _) 1).trans rfl, (blk_cell (blk_alloc BK683.out _) 2).trans rfl, (blk_cell (blk_alloc BK683.out _) 3).trans rfl, (blk_cell (blk_alloc BK683.out _) 4).trans rfl, (blk_cell (blk_alloc BK683.out _) 5).trans rfl⟩ (fun hHeld => ?_)
      clear hK K
      refine norm_ (a' := ?_) ?_ ?_
      rotate_left
      ·show Act.put _ (some 42) _ = _
       simp only [Act.put, List.setIfInBounds_toArray, List.set_cons_zero, List.set_cons_succ, i64_w, i32_w]
       rfl
      refine one_ (i := 5) (N := some 43) (mB 8 63) rfl rfl (one_of HT_.out (by kernel_rfl)) (by decide) (fun K hK => ?_)
      refine Kd.S_append_step k49 (w0 := w) w.heap.size (by rfl) (.tmp 39) (.tmp 42) 28 49 (.agg #[(.slice none 0 0), (.int .i64 0), (.int .i64 0), (.int .i64 0), (.int .i64 0), (.int .i64 0)]) 64 rfl Tryz.underlying28 info49 rfl (by decide) (by omega) (.slice Ao87 t709.length co87) t709 (⟨t733, t736, (⟨t737, t738, t739, t740⟩ : S47)⟩ : S49) [.slice Ao94 t733.length co94, .int .i64 t736, .int .i64 t737, .int .i64 t738, .int .i64 t739, .int .i64 t740] (fun k_ => k_ ≠ gb683) (fun k_ => some k_ = (.slice Ao94 t733.length co94 : Value).ownBlock) rfl rfl ?aP (fun k_ hk_ => ((Kd.R_mono (ok' := fun k_ => ((fun k_ => k_ ≠ gb683)) k_ ∧ some k_ ≠ (.slice Ao87 t709.length co87 : Value).ownBlock) (Kd.R_types (Kd.R_apart' (HO735.out) (Kd.S_typed HO711.out) (by decide)) BK683.out (by decide)) (fun k_ hk => ⟨hk.2, hk.1.2⟩))).1 k_ hk_.symm) ?aF ?aO ?aB ?aS ?aL ?_
      (case aP => exact k49_mkM _ _ _ (⟨t733, t736, (⟨t737, t738, t739, t740⟩ : S47)⟩ : S49) (Kd.R_mono (Kd.R_tight rfl (Kd.R_mono (ok' := fun k_ => ((fun k_ => k_ ≠ gb683)) k_ ∧ some k_ ≠ (.slice Ao87 t709.length co87 : Value).ownBlock) (Kd.R_types (Kd.R_apart' (HO735.out) (Kd.S_typed HO711.out) (by decide)) BK683.out (by decide)) (fun k_ hk => ⟨hk.2, hk.1.2⟩))) (fun _ h_ => h_)))
      (case aB => exact bS)
      (case aF => exact (fun k_ hk => Kd.freshB (g := gb683) kS k_ hk))
      (case aO => exact (by exact sT (Kd.S_mono HO711.out (fun k_ hk => ⟨hk.1, fun e_ => hk.2 e_⟩))))
      (case aS => exact (below_size bS))
      (case aL => have := LMc72.out; omega)
      intro v742 w93 ho hb hg hat
      rw [← Ny741.out] at ho
      have HO743 := aM (ho)
      replace BK682 := aM (blk_grown (g := gb682) kS hg (Kd.S_ne HO711.out BK682.out (by decide)))
      replace BK683 := aM (blk_grown (g := gb683) kS hg (Kd.S_away HO711.out (fun _ hk => hk.1)))
      replace BK684 := aM (blk_grown (g := gb684) kS hg (Kd.S_ne HO711.out BK684.out (by decide)))
      replace HO708 := aM (Kd.S_over' (sS HO708) (Kd.S_typed (sS HO711)) (by decide) hg)
      replace BK712 := aM (blk_grown (g := gb712) kS hg (Kd.S_ne HO711.out BK712.out (by decide)))
      replace HB := aM (hb)
      clear HO711 HO735
      clear ho hb hg hat
      obtain ⟨Ao95, co95, eo95⟩ := Kd.S_slice HO743.out
      (first | subst eo95 | obtain ⟨rfl, rfl⟩ := slE eo95)
      refine hK.out _ _ (cx4 BK712 (cy6 BK683)) (fun hHeld => ?_)
      clear hK K
      refine norm_ (a' := ?_) ?_ ?_
      rotate_left
      ·show Act.put _ (some 43) _ = _
       simp only [Act.put, List.setIfInBounds_toArray, List.set_cons_zero, List.set_cons_succ, i64_w, i32_w]
       rfl
      refine pU 6 (some 44) (mB 8 127) ?_
      refine last_ (i := 7) (N := none) (mB 8 255) rfl rfl (one_of HT_.out (by kernel_rfl)) (by decide) (fun K hK => ?_)
      have hs96 := cg3 BK712
      have hfs96 := blk_frozen BK712.out 3
      have hns96_0 := NB682_712.out
      have hns96_1 := NB683_712.out
      have hns96_2 := NB684_712.out
      have hms96_0 := NB712_682.out
      have hms96_1 := NB712_683.out
      have hms96_2 := NB712_684.out
      refine skip_ (w1 := ?_) (by rfl) rfl ?_ ?_
      rotate_left
      ·go_simp
       rfl
      refine hK.out _ _ ?_
      clear hK K
      refine done_ (done_of HT_.out (by kernel_rfl)) ?_
      have hz97 := cz4 BK712
      have hz98 := cz4 BK684
      try go_wp2
      refine bodyPost_ret (results_ct rfl _ _ gb684 30 #[.int .i64 t704, .int .i64 t705, .slice Ao86 t706.length co86, .slice Ao95 y741.length co95] (0, 0) _ rfl kS Tryz.underlying30 rfl (by kernel_rfl)) rfl ?_
      exact ⟨_, _, eS, by exact sT (Kd.S_mono (Kd.S_far (p := ⟨gb684, 3, none⟩) (Kd.S_far (p := ⟨gb684, 2, none⟩) (Kd.S_far (p := ⟨gb684, 1, none⟩) (Kd.S_far (p := ⟨gb684, 0, none⟩) (Kd.S_far (p := ⟨gb712, 3, none⟩) (Kd.S_types (Kd.S_types HO708.out BK712.out (by decide)) BK684.out (by decide)) (fun _ hk => hk.1.2) (.slice Ao95 y741.length co95)) (fun _ hk => hk.2) (.int .i64 t704)) (fun _ hk => hk.2) (.int .i64 t705)) (fun _ hk => hk.2) (.slice Ao86 t706.length co86)) (fun _ hk => hk.2) (.slice Ao95 y741.length co95)) (fun _ hk => trivial)), by exact sT (Kd.S_mono (Kd.S_far (p := ⟨gb684, 3, none⟩) (Kd.S_far (p := ⟨gb684, 2, none⟩) (Kd.S_far (p := ⟨gb684, 1, none⟩) (Kd.S_far (p := ⟨gb684, 0, none⟩) (Kd.S_far (p := ⟨gb712, 3, none⟩) (Kd.S_types (Kd.S_types HO743.out BK712.out (by decide)) BK684.out (by decide)) (fun _ hk => hk.1.2) (.slice Ao95 y741.length co95)) (fun _ hk => hk.2) (.int .i64 t704)) (fun _ hk => hk.2) (.int .i64 t705)) (fun _ hk => hk.2) (.slice Ao86 t706.length co86)) (fun _ hk => hk.2) (.slice Ao95 y741.length co95)) (fun _ hk => trivial)), bS⟩
    ·obtain rfl := Bool.eq_false_iff.mpr c32
     rw [if_neg nF] at H
     replace H := bN H
     obtain ⟨⟨t696, t697, t698, t701⟩, A99, H⟩ := H
     obtain ⟨rfl, rfl, rfl, rfl, rfl⟩ := sI5 H
     have hnb100 := NB683_682.out
     have hnc100 := NB682_683.out
     have hnb101 := NB683_684.out
     have hnc101 := NB684_683.out
     have hz102 := cz6 BK683
     have hnb103 := NB682_684.out
     have hnc103 := NB684_682.out
     have hz104 := cz4 BK682
     go_wp2_with (first | ((with_reducible refine gC 65 ?_); refine cM (some 22) Tryz.func65 (impl_TouchesBand.calls kj2 _ _ l1_0 a1_1 a1_2 a1_3 a1_4 a1_5 a0_0 a0_1 _ _ (cC HR1_0 HB) HC1_0.out A31.out) ?_; rintro e w105 ⟨rfl, hb⟩; refine ⟨_, rfl, ?_⟩; replace BK682 := kB_ gb682 hb; replace BK683 := kB_ gb683 hb; replace BK684 := kB_ gb684 hb; replace HB := hB hb; (try clear hb); have hz106 := cz4 BK682) | ((with_reducible refine gC 54 ?_); refine cM (some 25) Tryz.func54 (impl_copyBand.calls kj2 a0_0 a0_1 _ _ l0_2 _ _ l0_3 t696 t697 t698 t701 _ (cC HR0_2 HB) HC0_2.out (cC HR0_3 HB) HC0_3.out A99.out) ?_; rintro e w107 ⟨v699, v702, rfl, ho0, ho1, hb⟩; refine ⟨_, rfl, ?_⟩; have HO700 := aM (Kd.S_lower ho0 (below_size bS)); have HO703 := aM (Kd.S_lower (Kd.S_newB ho1 (g := gb683) kS) (below_size bS)); replace BK682 := kB_ gb682 hb; replace BK683 := kB_ gb683 hb; replace BK684 := kB_ gb684 hb; replace HB := hB hb; (try clear hb ho0 ho1); have hz108 := cz4 BK684; obtain ⟨Ao109, co109, eo109⟩ := Kd.S_slice HO700.out; subst eo109; obtain ⟨Ao110, co110, eo110⟩ := Kd.S_slice HO703.out; subst eo110))
     refine bodyPost_ret (results_ct rfl _ _ gb684 30 #[.int .i64 t696, .int .i64 t697, .slice Ao109 t698.length co109, .slice Ao110 t701.length co110] (0, 0) _ rfl kS Tryz.underlying30 rfl (by kernel_rfl)) rfl ?_
     exact ⟨_, _, eS, by exact sT (Kd.S_mono (Kd.S_far (p := ⟨gb684, 3, none⟩) (Kd.S_far (p := ⟨gb684, 2, none⟩) (Kd.S_far (p := ⟨gb684, 1, none⟩) (Kd.S_far (p := ⟨gb684, 0, none⟩) (Kd.S_types HO700.out BK684.out (by decide)) (fun _ hk => hk.2) (.int .i64 t696)) (fun _ hk => hk.2) (.int .i64 t697)) (fun _ hk => hk.2) (.slice Ao109 t698.length co109)) (fun _ hk => hk.2) (.slice Ao110 t701.length co110)) (fun _ hk => trivial)), by exact sT (Kd.S_mono (Kd.S_far (p := ⟨gb684, 3, none⟩) (Kd.S_far (p := ⟨gb684, 2, none⟩) (Kd.S_far (p := ⟨gb684, 1, none⟩) (Kd.S_far (p := ⟨gb684, 0, none⟩) (Kd.S_types HO703.out BK684.out (by decide)) (fun _ hk => hk.2) (.int .i64 t696)) (fun _ hk => hk.2) (.int .i64 t697)) (fun _ hk => hk.2) (.slice Ao109 t698.length co109)) (fun _ hk => hk.2) (.slice Ao110 t701.length co110)) (fun _ hk => trivial)), bS⟩

/-! ### laws_markObject: function 25 -/
def laws_markObject.f (k : Nat) (l0_0 : List (S151)) (a0_1 : Int) (a0_2 : Int) (a0_3 : Int) (a0_4 : Int) (a0_5 : Int) (a1 : Int) : Option (Int × (List (S151))) := (laws_markPointS.f k l0_0 a1).bind fun bt745 => (some (bt745.1, bt745.2))
theorem laws_markObject.calls (k : Nat) (P0_0_ : Nat → Prop) (u9000_ : Value) (l0_0 : List (S151)) (a0_1 : Int) (a0_2 : Int) (a0_3 : Int) (a0_4 : Int) (a0_5 : Int) (a1 : Int) (r1 : Int) (r2 : List (S151)) (w0 w : World) (hB : Below w0.heap.size w0 w) (ho0_0 : Kd.R k151 151 w w0.heap.size P0_0_ u9000_ l0_0) (h : laws_markObject.f k l0_0 a0_1 a0_2 a0_3 a0_4 a0_5 a1 = some (r1, r2)) :
  Calls Tryz.prog 25 #[.agg #[u9000_, .int .i64 a0_1, .int .i64 a0_2, .int .i64 a0_3, .int .i64 a0_4, .int .i64 a0_5], .int .i64 a1] w fun e w' => e = .returned (.int .i64 r1) ∧ Kd.R k151 151 w' w0.heap.size (fun k_ => (P0_0_ k_ ∨ w.heap.size ≤ k_)) u9000_ r2 ∧ Below w0.heap.size w0 w' ∧ Kept w w' (fun k_ => P0_0_ k_) := by
 have hu49 := Tryz.underlying49
 have HO0_0 := aM (show Kd.R k151 151 w w0.heap.size (fun k_ => (P0_0_ k_ ∨ w.heap.size ≤ k_)) u9000_ l0_0 from Kd.R_mono ho0_0 (fun k_ hk => (.inl hk)))
 have HK := aM (Kept.refl w (fun k_ => P0_0_ k_))
 have HW0 := aM hB.size
 have HB := aM hB
 clear hB
 have H := h
 clear h
 unfold laws_markObject.f at H
 replace H := bN H
 obtain ⟨⟨t745, t746⟩, A3, H⟩ := H
 obtain ⟨rfl, rfl⟩ := sI2 H
 obtain ⟨Ao4, co4, eo4⟩ := Kd.R_slice HO0_0.out
 subst eo4
 go_enter Tryz.func25, Tryz.ntmps25
 go_wp2_with (first | ((with_reducible refine gD 2 ?_); refine bxE #[.slice Ao4 l0_0.length co4, .int .i64 a0_1, .int .i64 a0_2, .int .i64 a0_3, .int .i64 a0_4, .int .i64 a0_5] 49 ?_; intro gb744 hg w5 BK744 hb; have GW744 := aM ((by rw [hg]; exact (by first | exact HK.out.1 | exact (show Kept w _ (fun k_ => P0_0_ k_) from by repeat (first | (with_reducible first | exact HK.out | apply Kept.alloc | apply Kept.drewN | apply Kept.drew) | exact HK.out)).1) : w.heap.size ≤ gb744)); have GE744 := aM ((by rw [hg]; exact (below_size bS) : w0.heap.size ≤ gb744)); replace HO0_0 := aM (Kd.R_below (rS HO0_0) hb); replace HK := aM (Kept.below (S := (fun k_ => P0_0_ k_)) (by repeat (first | (with_reducible first | exact HK.out | apply Kept.alloc | apply Kept.drewN | apply Kept.drew) | exact HK.out)) hb); replace HB := hB hb; clear hb hg; have hz6 := cz6 BK744) | ((with_reducible refine gC 70 ?_); refine cL (some 8) Tryz.func70 #[.slice Ao4 l0_0.length co4, .int .i64 a1] ?_; (with_reducible refine (laws_markPointS.calls k (fun k_ => some k_ = (.slice Ao4 l0_0.length co4 : Value).ownBlock) (.slice Ao4 l0_0.length co4) l0_0 a1 t745 t746 w0 _ ?side1 ?side2 A3.out).mono ?_); (case side1 => repeat (first | (with_reducible first | exact HB.out | apply below_alloc | apply pw_below_drewN | apply below_drew1 | refine below_set ?_ GE744.out) | exact HB.out)); (case side2 => exact Kd.R_tight rfl HO0_0.out); rintro e w7 ⟨rfl, hy0, hb, hkp⟩; refine ⟨_, rfl, ?_⟩; replace BK744 := aM (blk_kept (g := gb744) kS hkp (fun hs_ => (fun e_ => (Kd.R_ne HO0_0.out BK744.out (by decide)) e_) hs_)); replace HK := aM (Kept.then_ (S := (fun k_ => P0_0_ k_)) (by repeat (first | (with_reducible first | exact HK.out | apply Kept.alloc | apply Kept.drewN | apply Kept.drew | refine Kept.setCell ?_ (.inr GW744.out) _) | exact HK.out)) hkp (fun k_ hs_ => (fun e_ => (HO0_0.out.1 k_ e_.symm)) hs_)); replace HO0_0 := aM (Kd.R_reok rfl hy0 (fun k_ e_ => HO0_0.out.1 k_ e_)); replace HB := aM (hb); (try clear hb hkp hy0)))
 go_ret
 exact ⟨eS, rS HO0_0, bS, by repeat (first | (with_reducible first | exact HK.out | apply Kept.alloc | apply Kept.drewN | apply Kept.drew | refine Kept.setCell ?_ (.inr GW744.out) _) | exact HK.out)⟩

end Go.Proofs.YtncfipboidmfbaaGreat.QFnExactAddToBand
