-- Made out of the translation by a program of this session (a changed copy of the print). Not trusted: Lean checks it.
import Derived.Test.YtigodjcnkgebaaaQFnBandsx0
import Derived.Test.YtigodjcnkgebaaaQFnBandsx1
import Derived.Test.YtigodjcnkgebaaaQFnBandsx2
import Derived.Test.YtigodjcnkgebaaaQFnBandsx8
namespace Go.Proofs.Ytigodjcnkgebaaa.QFnBands
open Go.RowKit Go.Proofs.YtigodjcnkgebaaaW.PrintWords Go.Proofs.YtigodjcnkgebaaaW.PrintLast Go.Proofs.YtigodjcnkgebaaaW.PrintMore
attribute [local go_sem] max2_int min2_int max_two min_two max_three min_three max_four min_four   -- for this text's walks alone
set_option linter.unusedVariables false
set_option linter.unusedSimpArgs false
set_option maxHeartbeats 8000000
set_option maxRecDepth 100000

/-! ### impl_ObjectsOfBand: function 76 -/
def impl_ObjectsOfBand.l0 : Nat → Int → Int → List (S45) → List (S45) → Int → Int → Option ((List (S45)))
 | 0, _, _, _, _, _, _ => none
 | k + 1, x1, x2, x7, x10, x11, x12 => if x12 < x11 then (if 0 ≤ x12 then (if x12 < (x10.length : Int) then ((impl_ObjectOk.f k ((rd_T45 x10 x12).f0) ((rd_T45 x10 x12).f1) ((rd_T45 x10 x12).f2.f0) ((rd_T45 x10 x12).f2.f1) ((rd_T45 x10 x12).f2.f2) ((rd_T45 x10 x12).f2.f3)).bind fun t427 => (if t427 = true then ((impl_TouchesBand.f k ((rd_T45 x10 x12).f0) ((rd_T45 x10 x12).f1) ((rd_T45 x10 x12).f2.f0) ((rd_T45 x10 x12).f2.f1) ((rd_T45 x10 x12).f2.f2) ((rd_T45 x10 x12).f2.f3) x1 x2).bind fun t428 => (if t428 = true then ((impl_copyObject.f ((rd_T45 x10 x12).f0) ((rd_T45 x10 x12).f1) ((rd_T45 x10 x12).f2.f0) ((rd_T45 x10 x12).f2.f1) ((rd_T45 x10 x12).f2.f2) ((rd_T45 x10 x12).f2.f3)).bind fun bt429 => (if x7.length < 2199023255552 then (impl_ObjectsOfBand.l0 k x1 x2 (x7 ++ [(⟨bt429.1, bt429.2.1, (⟨bt429.2.2.1, bt429.2.2.2.1, bt429.2.2.2.2.1, bt429.2.2.2.2.2⟩ : S43)⟩ : S45)]) x10 x11 (wrap64 (x12 + 1))) else (none))) else (impl_ObjectsOfBand.l0 k x1 x2 x7 x10 x11 (wrap64 (x12 + 1))))) else (impl_ObjectsOfBand.l0 k x1 x2 x7 x10 x11 (wrap64 (x12 + 1))))) else (none)) else (none)) else (some x7)
def impl_ObjectsOfBand.f (k : Nat) (l0 : List (S45)) (a1 : Int) (a2 : Int) : Option ((List (S45))) := impl_ObjectsOfBand.l0 k a1 a2 ([] : List (S45)) l0 (l0.length : Int) 0
theorem impl_ObjectsOfBand.calls (k : Nat) (A0 : Option Addr) (c0 : Nat) (l0 : List (S45)) (a1 : Int) (a2 : Int) (r : List (S45)) (w : World) (hr0 : Kd.C k45 w A0 l0.length l0) (hc0 : l0.length ≤ c0) (h : impl_ObjectsOfBand.f k l0 a1 a2 = some r) :
  Calls Try.prog 76 #[.slice A0 l0.length c0, .int .i64 a1, .int .i64 a2] w fun e w' => ∃ v0_ : Value, e = .returned (v0_) ∧ Kd.S k45 45 w' w.heap.size (fun _ => True) v0_ r ∧ Below w.heap.size w w' := by
 have hu45 := Try.underlying45
 have HR0 := Aside0.mk hr0
 have HC0 := Aside0.mk hc0
 clear hr0 hc0
 have HB := Aside0.mk (Below.refl w.heap.size w)
 have H : (impl_ObjectsOfBand.l0 k a1 a2 ([] : List (S45)) l0 (l0.length : Int) 0) = some r := h
 clear h
 have H' := Aside0.mk H
 clear H
 go_enter Try.func76, Try.ntmps76
 go_wp2
 go_loopg [7, 12] k (fun kq v7 v12 w' => ∃ (x7_1 : List (S45)) (x12_1 : Int), v12 = .int .i64 x12_1 ∧ Aside0 (impl_ObjectsOfBand.l0 kq a1 a2 x7_1 l0 (l0.length : Int) x12_1 = some r) ∧ Aside0 (kq ≤ k) ∧ Aside0 (Kd.S k45 45 w' w.heap.size (fun _ => True) v7 x7_1) ∧ Aside0 (Below w.heap.size w w'))
 case atStart => exact ⟨(([] : List (S45))), (0), (by first | rfl | (simp; done) | (simp [*]; done)), H', ⟨Nat.le_refl _⟩, ⟨by first | exact Kd.S_nil _ _ _ _ _ | exact Kd.N_nil _ _ _ _ _ | exact Kd.V_nil _ _ _ _ _ | exact Kd.Q_nil _ _ _ _ _ | exact Kd.R_nil _ _ _ _ _⟩, ⟨bS⟩⟩
 case round =>
  clear H'
  try clear p2
  obtain ⟨x7_1, x12_1, rfl, HA, HK1, HO_7, HB⟩ := hrel
  cases gk with
  | zero => exact absurd HA.out (by simp [impl_ObjectsOfBand.l0])
  | succ k1 =>
   have H := HA.out
   clear HA
   simp only [impl_ObjectsOfBand.l0] at H
   by_cases c4 : x12_1 < (l0.length : Int)
   ·rw [if_pos c4] at H
    have c4b0 : decide (x12_1 < (l0.length : Int)) = true := decide_eq_true c4
    clear c4
    by_cases c5 : 0 ≤ x12_1
    ·rw [if_pos c5] at H
     have c5b0 : decide (0 ≤ x12_1) = true := decide_eq_true c5
     clear c5
     by_cases c6 : x12_1 < (l0.length : Int)
     ·rw [if_pos c6] at H
      have c6b0 : decide (x12_1 < (l0.length : Int)) = true := decide_eq_true c6
      clear c6
      replace H := bN H
      obtain ⟨t427, A7, H⟩ := H
      by_cases c8 : t427 = true
      ·subst c8
       rw [if_pos rfl] at H
       replace H := bN H
       obtain ⟨t428, A9, H⟩ := H
       by_cases c10 : t428 = true
       ·subst c10
        rw [if_pos rfl] at H
        replace H := bN H
        obtain ⟨⟨t429, t432, t433, t434, t435, t436⟩, A11, H⟩ := H
        by_cases c12 : x7_1.length < 2199023255552
        ·rw [if_pos c12] at H
         have LMc12 := Aside0.mk c12
         clear c12
         obtain ⟨y437, hy437⟩ : ∃ y_ : List (S45), y_ = (x7_1 ++ [(⟨t429, t432, (⟨t433, t434, t435, t436⟩ : S43)⟩ : S45)]) := ⟨_, rfl⟩
         replace H : (impl_ObjectsOfBand.l0 k1 a1 a2 y437 l0 (l0.length : Int) (wrap64 (x12_1 + 1))) = some r := by first | (rw [hy437]; with_reducible exact H) | (have H2_ := (Option.bind_some _ _).symm.trans H; rw [hy437]; with_reducible exact H2_) | (have H2_ := (Option.bind_some _ _).symm.trans H; with_reducible exact H2_) | with_reducible exact H | (rw [hy437]; exact H) | exact H
         have Ny437 := Aside0.mk hy437
         clear hy437
         have H' := Aside0.mk H
         clear H
         have p425 : 0 ≤ (x12_1 : Int) := of_decide_eq_true (by first | (with_reducible assumption) | assumption)
         have q425 : x12_1 < (l0.length : Int) := of_decide_eq_true (by first | (with_reducible assumption) | assumption)
         obtain ⟨ad425, A425_0, c425_0, e425, hx425_0, hx425_1, hx425_2, hx425_3, hx425_4, hx425_5, hl425_0, hi425_0⟩ := at_T45 HR0.out x12_1 p425 q425
         cases e425
         replace hx425_0 := (HB.out.cell (World.block_lt_of_cell? w _ hx425_0)).trans hx425_0
         replace hx425_1 := (HB.out.cell (World.block_lt_of_cell? w _ hx425_1)).trans hx425_1
         replace hx425_2 := (HB.out.cell (World.block_lt_of_cell? w _ hx425_2)).trans hx425_2
         replace hx425_3 := (HB.out.cell (World.block_lt_of_cell? w _ hx425_3)).trans hx425_3
         replace hx425_4 := (HB.out.cell (World.block_lt_of_cell? w _ hx425_4)).trans hx425_4
         replace hx425_5 := (HB.out.cell (World.block_lt_of_cell? w _ hx425_5)).trans hx425_5
         have HR425_0 := Aside0.mk hi425_0
         have HC425_0 := Aside0.mk hl425_0
         clear hi425_0 hl425_0
         replace p425 := eq_true p425
         replace q425 := eq_true q425
         go_wp2_with (first | ((with_reducible refine gD 9 ?_); refine bxE #[.slice none 0 0, .int .i64 0, .int .i64 0, .int .i64 0, .int .i64 0, .int .i64 0] 45 ?_; intro gb426 hg w13 BK426 hb; have GW426 := gE hg; have GE426 := gE hg; replace HO_7 := Aside0.mk (Kd.S_below (Kd.S_elderB (by (with_reducible repeat (first | apply Kd.S_alloc | apply Kd.S_drewN | apply Kd.S_drew)); exact HO_7.out) gb426 (Nat.le_of_eq hg.symm)) hb); replace HB := hB hb; clear hb hg; have hz14 := cz6 BK426) | ((with_reducible refine gC 87 ?_); refine cL (some 17) Try.func87 #[.agg #[.slice A425_0 ((rd_T45 l0 x12_1).f0).length c425_0, .int .i64 ((rd_T45 l0 x12_1).f1), .int .i64 ((rd_T45 l0 x12_1).f2.f0), .int .i64 ((rd_T45 l0 x12_1).f2.f1), .int .i64 ((rd_T45 l0 x12_1).f2.f2), .int .i64 ((rd_T45 l0 x12_1).f2.f3)]] ?_; (with_reducible refine (impl_ObjectOk.calls k1 _ _ ((rd_T45 l0 x12_1).f0) ((rd_T45 l0 x12_1).f1) ((rd_T45 l0 x12_1).f2.f0) ((rd_T45 l0 x12_1).f2.f1) ((rd_T45 l0 x12_1).f2.f2) ((rd_T45 l0 x12_1).f2.f3) _ _ ?side1 ?side2 A7.out).mono ?_); (case side1 => exact Kd.C_below HR425_0.out bS); (case side2 => exact HC425_0.out); rintro e w15 ⟨rfl, hb⟩; refine ⟨_, rfl, ?_⟩; replace HO_7 := Aside0.mk (Kd.S_below (by (with_reducible repeat (first | apply Kd.S_alloc | apply Kd.S_drewN | apply Kd.S_drew)); exact (Kd.S_mono (Kd.S_far (p := ⟨gb426, 5, none⟩) (Kd.S_far (p := ⟨gb426, 4, none⟩) (Kd.S_far (p := ⟨gb426, 3, none⟩) (Kd.S_far (p := ⟨gb426, 2, none⟩) (Kd.S_far (p := ⟨gb426, 1, none⟩) (Kd.S_far (p := ⟨gb426, 0, none⟩) (Kd.S_mono HO_7.out (fun k_ hk => (⟨hk, hk.2⟩ : _ ∧ k_ ≠ gb426))) (fun _ hk => hk.2) (.slice A425_0 ((rd_T45 l0 x12_1).f0).length c425_0)) (fun _ hk => hk.2) (.int .i64 ((rd_T45 l0 x12_1).f1))) (fun _ hk => hk.2) (.int .i64 ((rd_T45 l0 x12_1).f2.f0))) (fun _ hk => hk.2) (.int .i64 ((rd_T45 l0 x12_1).f2.f1))) (fun _ hk => hk.2) (.int .i64 ((rd_T45 l0 x12_1).f2.f2))) (fun _ hk => hk.2) (.int .i64 ((rd_T45 l0 x12_1).f2.f3))) (fun _ h_ => h_.1))) hb); replace BK426 := Aside0.mk (blk_below (g := gb426) (o := .cells #[.slice A425_0 ((rd_T45 l0 x12_1).f0).length c425_0, .int .i64 ((rd_T45 l0 x12_1).f1), .int .i64 ((rd_T45 l0 x12_1).f2.f0), .int .i64 ((rd_T45 l0 x12_1).f2.f1), .int .i64 ((rd_T45 l0 x12_1).f2.f2), .int .i64 ((rd_T45 l0 x12_1).f2.f3)] 45 (0, 0)) kS hb); replace HB := hB hb; (try clear hb); (try clear hb2); (try clear hk); (try clear hi); have hz16 := cz6 BK426) | (go_at_call 102; (with_reducible refine (impl_TouchesBand.calls k1 _ _ ((rd_T45 l0 x12_1).f0) ((rd_T45 l0 x12_1).f1) ((rd_T45 l0 x12_1).f2.f0) ((rd_T45 l0 x12_1).f2.f1) ((rd_T45 l0 x12_1).f2.f2) ((rd_T45 l0 x12_1).f2.f3) a1 a2 _ _ ?side1 ?side2 A9.out).mono ?_); (case side1 => exact cS (Kd.C_below HR425_0.out HB.out)); (case side2 => exact HC425_0.out); rintro e w17 ⟨rfl, hb⟩; replace HO_7 := Aside0.mk (Kd.S_below (by (with_reducible repeat (first | apply Kd.S_alloc | apply Kd.S_drewN | apply Kd.S_drew)); exact HO_7.out) hb); replace BK426 := kB (g := gb426) hb; replace HB := hB hb; (try clear hb); (try clear hb2); (try clear hk); (try clear hi); have hz18 := cz6 BK426) | ((with_reducible refine gC 138 ?_); refine cL (some 26) Try.func138 #[.agg #[.slice A425_0 ((rd_T45 l0 x12_1).f0).length c425_0, .int .i64 ((rd_T45 l0 x12_1).f1), .int .i64 ((rd_T45 l0 x12_1).f2.f0), .int .i64 ((rd_T45 l0 x12_1).f2.f1), .int .i64 ((rd_T45 l0 x12_1).f2.f2), .int .i64 ((rd_T45 l0 x12_1).f2.f3)]] ?_; (with_reducible refine (impl_copyObject.calls _ _ ((rd_T45 l0 x12_1).f0) ((rd_T45 l0 x12_1).f1) ((rd_T45 l0 x12_1).f2.f0) ((rd_T45 l0 x12_1).f2.f1) ((rd_T45 l0 x12_1).f2.f2) ((rd_T45 l0 x12_1).f2.f3) t429 t432 t433 t434 t435 t436 _ ?side1 ?side2 A11.out).mono ?_); (case side1 => exact cS (Kd.C_below HR425_0.out HB.out)); (case side2 => exact HC425_0.out); rintro e w19 ⟨v430, rfl, ho0, hb⟩; refine ⟨_, rfl, ?_⟩; have HO431 := Aside0.mk (Kd.R_lower ho0 (below_size bS)); replace HO_7 := Aside0.mk (Kd.S_elder' (by (with_reducible repeat (first | apply Kd.S_alloc | apply Kd.S_drewN | apply Kd.S_drew)); exact HO_7.out) (Kd.R_base ho0) hb); replace BK426 := kB (g := gb426) hb; replace HB := hB hb; (try clear hb); (try clear hb2); (try clear hk); (try clear hi); (try clear ho0); obtain ⟨Ao21, co21, eo21⟩ := Kd.R_slice HO431.out; subst eo21) | ((with_reducible refine gate_builtin (b := .append) (xs := #[.tmp 24, .tmp 27]) rfl ?_); at_builtin; refine Kd.S_append k45 (w0 := w) w.heap.size rfl (.tmp 24) (.tmp 27) 24 45 (.agg #[(.slice none 0 0), (.int .i64 0), (.int .i64 0), (.int .i64 0), (.int .i64 0), (.int .i64 0)]) 64 rfl Try.underlying24 info45 rfl (by decide) (by omega) u7 x7_1 (⟨t429, t432, (⟨t433, t434, t435, t436⟩ : S43)⟩ : S45) [.slice Ao21 t429.length co21, .int .i64 t432, .int .i64 t433, .int .i64 t434, .int .i64 t435, .int .i64 t436] (fun k_ => k_ ≠ gb426) (fun k_ => some k_ = (.slice Ao21 t429.length co21 : Value).ownBlock) rfl rfl ?aP (fun k_ hk_ => ((Kd.R_mono (ok' := fun k_ => ((fun k_ => k_ ≠ gb426)) k_ ∧ some k_ ≠ (u7 : Value).ownBlock) (Kd.R_types (Kd.R_apart' (HO431.out) (Kd.S_typed HO_7.out) (by decide)) BK426.out (by decide)) (fun k_ hk => ⟨hk.2, hk.1.2⟩))).1 k_ hk_.symm) ?aF ?aO ?aB ?aS ?aL ?_; (case aP => exact k45_mkM _ _ _ (⟨t429, t432, (⟨t433, t434, t435, t436⟩ : S43)⟩ : S45) (Kd.R_mono (Kd.R_tight rfl (Kd.R_mono (ok' := fun k_ => ((fun k_ => k_ ≠ gb426)) k_ ∧ some k_ ≠ (u7 : Value).ownBlock) (Kd.R_types (Kd.R_apart' (HO431.out) (Kd.S_typed HO_7.out) (by decide)) BK426.out (by decide)) (fun k_ hk => ⟨hk.2, hk.1.2⟩))) (fun _ h_ => h_))); (case aB => exact bS); (case aF => exact (fun k_ hk => Kd.freshB (g := gb426) kS k_ hk)); (case aO => exact (by (with_reducible repeat (first | apply Kd.S_alloc | apply Kd.S_drewN | apply Kd.S_drew)); exact Kd.S_mono HO_7.out (fun k_ hk => ⟨hk.1.2, fun e_ => hk.2 e_⟩))); (case aS => exact (below_size bS)); (case aL => have := LMc12.out; omega); intro v438 w20 ho hb hg hat; rw [← Ny437.out] at ho; have HO439 := Aside0.mk (ho); replace BK426 := Aside0.mk (blk_grown (g := gb426) kS hg (Kd.S_away HO_7.out (fun _ hk => hk.1.2))); replace HB := Aside0.mk (hb); clear HO_7 HO431; clear ho hb hg hat))
         go_roundg k1
         case measure => have := HK1.out; omega
         case rel => exact ⟨(y437), (wrap64 (x12_1 + 1)), (by first | rfl | (simp; done) | (simp [*]; done)), H', ⟨by have := HK1.out; omega⟩, ⟨by (with_reducible repeat (first | apply Kd.S_alloc | apply Kd.S_drewN | apply Kd.S_drew)); exact Kd.S_mono HO439.out (fun _ hk => trivial)⟩, ⟨bS⟩⟩
        ·rw [if_neg c12] at H
         exact absurd H (by simp)
       ·obtain rfl := Bool.eq_false_iff.mpr c10
        rw [if_neg nF] at H
        have H' := Aside0.mk H
        clear H
        have p425 : 0 ≤ (x12_1 : Int) := of_decide_eq_true (by first | (with_reducible assumption) | assumption)
        have q425 : x12_1 < (l0.length : Int) := of_decide_eq_true (by first | (with_reducible assumption) | assumption)
        obtain ⟨ad425, A425_0, c425_0, e425, hx425_0, hx425_1, hx425_2, hx425_3, hx425_4, hx425_5, hl425_0, hi425_0⟩ := at_T45 HR0.out x12_1 p425 q425
        cases e425
        replace hx425_0 := (HB.out.cell (World.block_lt_of_cell? w _ hx425_0)).trans hx425_0
        replace hx425_1 := (HB.out.cell (World.block_lt_of_cell? w _ hx425_1)).trans hx425_1
        replace hx425_2 := (HB.out.cell (World.block_lt_of_cell? w _ hx425_2)).trans hx425_2
        replace hx425_3 := (HB.out.cell (World.block_lt_of_cell? w _ hx425_3)).trans hx425_3
        replace hx425_4 := (HB.out.cell (World.block_lt_of_cell? w _ hx425_4)).trans hx425_4
        replace hx425_5 := (HB.out.cell (World.block_lt_of_cell? w _ hx425_5)).trans hx425_5
        have HR425_0 := Aside0.mk hi425_0
        have HC425_0 := Aside0.mk hl425_0
        clear hi425_0 hl425_0
        replace p425 := eq_true p425
        replace q425 := eq_true q425
        go_wp2_with (first | ((with_reducible refine gD 9 ?_); refine bxE #[.slice none 0 0, .int .i64 0, .int .i64 0, .int .i64 0, .int .i64 0, .int .i64 0] 45 ?_; intro gb426 hg w22 BK426 hb; have GW426 := gE hg; have GE426 := gE hg; replace HO_7 := Aside0.mk (Kd.S_below (Kd.S_elderB (by (with_reducible repeat (first | apply Kd.S_alloc | apply Kd.S_drewN | apply Kd.S_drew)); exact HO_7.out) gb426 (Nat.le_of_eq hg.symm)) hb); replace HB := hB hb; clear hb hg; have hz23 := cz6 BK426) | ((with_reducible refine gC 87 ?_); refine cL (some 17) Try.func87 #[.agg #[.slice A425_0 ((rd_T45 l0 x12_1).f0).length c425_0, .int .i64 ((rd_T45 l0 x12_1).f1), .int .i64 ((rd_T45 l0 x12_1).f2.f0), .int .i64 ((rd_T45 l0 x12_1).f2.f1), .int .i64 ((rd_T45 l0 x12_1).f2.f2), .int .i64 ((rd_T45 l0 x12_1).f2.f3)]] ?_; (with_reducible refine (impl_ObjectOk.calls k1 _ _ ((rd_T45 l0 x12_1).f0) ((rd_T45 l0 x12_1).f1) ((rd_T45 l0 x12_1).f2.f0) ((rd_T45 l0 x12_1).f2.f1) ((rd_T45 l0 x12_1).f2.f2) ((rd_T45 l0 x12_1).f2.f3) _ _ ?side1 ?side2 A7.out).mono ?_); (case side1 => exact Kd.C_below HR425_0.out bS); (case side2 => exact HC425_0.out); rintro e w24 ⟨rfl, hb⟩; refine ⟨_, rfl, ?_⟩; replace HO_7 := Aside0.mk (Kd.S_below (by (with_reducible repeat (first | apply Kd.S_alloc | apply Kd.S_drewN | apply Kd.S_drew)); exact (Kd.S_mono (Kd.S_far (p := ⟨gb426, 5, none⟩) (Kd.S_far (p := ⟨gb426, 4, none⟩) (Kd.S_far (p := ⟨gb426, 3, none⟩) (Kd.S_far (p := ⟨gb426, 2, none⟩) (Kd.S_far (p := ⟨gb426, 1, none⟩) (Kd.S_far (p := ⟨gb426, 0, none⟩) (Kd.S_mono HO_7.out (fun k_ hk => (⟨hk, hk.2⟩ : _ ∧ k_ ≠ gb426))) (fun _ hk => hk.2) (.slice A425_0 ((rd_T45 l0 x12_1).f0).length c425_0)) (fun _ hk => hk.2) (.int .i64 ((rd_T45 l0 x12_1).f1))) (fun _ hk => hk.2) (.int .i64 ((rd_T45 l0 x12_1).f2.f0))) (fun _ hk => hk.2) (.int .i64 ((rd_T45 l0 x12_1).f2.f1))) (fun _ hk => hk.2) (.int .i64 ((rd_T45 l0 x12_1).f2.f2))) (fun _ hk => hk.2) (.int .i64 ((rd_T45 l0 x12_1).f2.f3))) (fun _ h_ => h_.1))) hb); replace BK426 := Aside0.mk (blk_below (g := gb426) (o := .cells #[.slice A425_0 ((rd_T45 l0 x12_1).f0).length c425_0, .int .i64 ((rd_T45 l0 x12_1).f1), .int .i64 ((rd_T45 l0 x12_1).f2.f0), .int .i64 ((rd_T45 l0 x12_1).f2.f1), .int .i64 ((rd_T45 l0 x12_1).f2.f2), .int .i64 ((rd_T45 l0 x12_1).f2.f3)] 45 (0, 0)) kS hb); replace HB := hB hb; (try clear hb); (try clear hb2); (try clear hk); (try clear hi); have hz25 := cz6 BK426) | (go_at_call 102; (with_reducible refine (impl_TouchesBand.calls k1 _ _ ((rd_T45 l0 x12_1).f0) ((rd_T45 l0 x12_1).f1) ((rd_T45 l0 x12_1).f2.f0) ((rd_T45 l0 x12_1).f2.f1) ((rd_T45 l0 x12_1).f2.f2) ((rd_T45 l0 x12_1).f2.f3) a1 a2 _ _ ?side1 ?side2 A9.out).mono ?_); (case side1 => exact cS (Kd.C_below HR425_0.out HB.out)); (case side2 => exact HC425_0.out); rintro e w26 ⟨rfl, hb⟩; replace HO_7 := Aside0.mk (Kd.S_below (by (with_reducible repeat (first | apply Kd.S_alloc | apply Kd.S_drewN | apply Kd.S_drew)); exact HO_7.out) hb); replace BK426 := kB (g := gb426) hb; replace HB := hB hb; (try clear hb); (try clear hb2); (try clear hk); (try clear hi)))
        go_roundg k1
        case measure => have := HK1.out; omega
        case rel => exact ⟨(x7_1), (wrap64 (x12_1 + 1)), (by first | rfl | (simp; done) | (simp [*]; done)), H', ⟨by have := HK1.out; omega⟩, ⟨by (with_reducible repeat (first | apply Kd.S_alloc | apply Kd.S_drewN | apply Kd.S_drew)); exact Kd.S_mono HO_7.out (fun _ hk => trivial)⟩, ⟨bS⟩⟩
      ·obtain rfl := Bool.eq_false_iff.mpr c8
       rw [if_neg nF] at H
       have H' := Aside0.mk H
       clear H
       have p425 : 0 ≤ (x12_1 : Int) := of_decide_eq_true (by first | (with_reducible assumption) | assumption)
       have q425 : x12_1 < (l0.length : Int) := of_decide_eq_true (by first | (with_reducible assumption) | assumption)
       obtain ⟨ad425, A425_0, c425_0, e425, hx425_0, hx425_1, hx425_2, hx425_3, hx425_4, hx425_5, hl425_0, hi425_0⟩ := at_T45 HR0.out x12_1 p425 q425
       cases e425
       replace hx425_0 := (HB.out.cell (World.block_lt_of_cell? w _ hx425_0)).trans hx425_0
       replace hx425_1 := (HB.out.cell (World.block_lt_of_cell? w _ hx425_1)).trans hx425_1
       replace hx425_2 := (HB.out.cell (World.block_lt_of_cell? w _ hx425_2)).trans hx425_2
       replace hx425_3 := (HB.out.cell (World.block_lt_of_cell? w _ hx425_3)).trans hx425_3
       replace hx425_4 := (HB.out.cell (World.block_lt_of_cell? w _ hx425_4)).trans hx425_4
       replace hx425_5 := (HB.out.cell (World.block_lt_of_cell? w _ hx425_5)).trans hx425_5
       have HR425_0 := Aside0.mk hi425_0
       have HC425_0 := Aside0.mk hl425_0
       clear hi425_0 hl425_0
       replace p425 := eq_true p425
       replace q425 := eq_true q425
       go_wp2_with (first | ((with_reducible refine gD 9 ?_); refine bxE #[.slice none 0 0, .int .i64 0, .int .i64 0, .int .i64 0, .int .i64 0, .int .i64 0] 45 ?_; intro gb426 hg w27 BK426 hb; have GW426 := gE hg; have GE426 := gE hg; replace HO_7 := Aside0.mk (Kd.S_below (Kd.S_elderB (by (with_reducible repeat (first | apply Kd.S_alloc | apply Kd.S_drewN | apply Kd.S_drew)); exact HO_7.out) gb426 (Nat.le_of_eq hg.symm)) hb); replace HB := hB hb; clear hb hg; have hz28 := cz6 BK426) | ((with_reducible refine gC 87 ?_); refine cL (some 17) Try.func87 #[.agg #[.slice A425_0 ((rd_T45 l0 x12_1).f0).length c425_0, .int .i64 ((rd_T45 l0 x12_1).f1), .int .i64 ((rd_T45 l0 x12_1).f2.f0), .int .i64 ((rd_T45 l0 x12_1).f2.f1), .int .i64 ((rd_T45 l0 x12_1).f2.f2), .int .i64 ((rd_T45 l0 x12_1).f2.f3)]] ?_; (with_reducible refine (impl_ObjectOk.calls k1 _ _ ((rd_T45 l0 x12_1).f0) ((rd_T45 l0 x12_1).f1) ((rd_T45 l0 x12_1).f2.f0) ((rd_T45 l0 x12_1).f2.f1) ((rd_T45 l0 x12_1).f2.f2) ((rd_T45 l0 x12_1).f2.f3) _ _ ?side1 ?side2 A7.out).mono ?_); (case side1 => exact Kd.C_below HR425_0.out bS); (case side2 => exact HC425_0.out); rintro e w29 ⟨rfl, hb⟩; refine ⟨_, rfl, ?_⟩; replace HO_7 := Aside0.mk (Kd.S_below (by (with_reducible repeat (first | apply Kd.S_alloc | apply Kd.S_drewN | apply Kd.S_drew)); exact (Kd.S_mono (Kd.S_far (p := ⟨gb426, 5, none⟩) (Kd.S_far (p := ⟨gb426, 4, none⟩) (Kd.S_far (p := ⟨gb426, 3, none⟩) (Kd.S_far (p := ⟨gb426, 2, none⟩) (Kd.S_far (p := ⟨gb426, 1, none⟩) (Kd.S_far (p := ⟨gb426, 0, none⟩) (Kd.S_mono HO_7.out (fun k_ hk => (⟨hk, hk.2⟩ : _ ∧ k_ ≠ gb426))) (fun _ hk => hk.2) (.slice A425_0 ((rd_T45 l0 x12_1).f0).length c425_0)) (fun _ hk => hk.2) (.int .i64 ((rd_T45 l0 x12_1).f1))) (fun _ hk => hk.2) (.int .i64 ((rd_T45 l0 x12_1).f2.f0))) (fun _ hk => hk.2) (.int .i64 ((rd_T45 l0 x12_1).f2.f1))) (fun _ hk => hk.2) (.int .i64 ((rd_T45 l0 x12_1).f2.f2))) (fun _ hk => hk.2) (.int .i64 ((rd_T45 l0 x12_1).f2.f3))) (fun _ h_ => h_.1))) hb); replace BK426 := Aside0.mk (blk_below (g := gb426) (o := .cells #[.slice A425_0 ((rd_T45 l0 x12_1).f0).length c425_0, .int .i64 ((rd_T45 l0 x12_1).f1), .int .i64 ((rd_T45 l0 x12_1).f2.f0), .int .i64 ((rd_T45 l0 x12_1).f2.f1), .int .i64 ((rd_T45 l0 x12_1).f2.f2), .int .i64 ((rd_T45 l0 x12_1).f2.f3)] 45 (0, 0)) kS hb); replace HB := hB hb; (try clear hb); (try clear hb2); (try clear hk); (try clear hi)))
       go_roundg k1
       case measure => have := HK1.out; omega
       case rel => exact ⟨(x7_1), (wrap64 (x12_1 + 1)), (by first | rfl | (simp; done) | (simp [*]; done)), H', ⟨by have := HK1.out; omega⟩, ⟨by (with_reducible repeat (first | apply Kd.S_alloc | apply Kd.S_drewN | apply Kd.S_drew)); exact Kd.S_mono HO_7.out (fun _ hk => trivial)⟩, ⟨bS⟩⟩
     ·rw [if_neg c6] at H
      exact absurd H (by simp)
    ·rw [if_neg c5] at H
     exact absurd H (by simp)
   ·rw [if_neg c4] at H
    have c4b0 : decide (x12_1 < (l0.length : Int)) = false := decide_eq_false c4
    clear c4
    obtain rfl := Option.some.inj H
    simp only [Option.some.injEq, Prod.mk.injEq] at H
    obtain ⟨rfl⟩ := H
    go_wp2
    go_ret
    exact ⟨_, eS, by (with_reducible repeat (first | apply Kd.S_alloc | apply Kd.S_drewN | apply Kd.S_drew)); exact HO_7.out, bS⟩

/-! ### impl_RenderBands: function 19 -/
def impl_RenderBands.l0 : Nat → List (S45) → Int → List (List Int) → Int → Option ((List (List Int)))
 | 0, _, _, _, _ => none
 | k + 1, x0, x1, x5, x6 => (impl_CountBands.f x1).bind fun t440 => (if x6 < t440 then ((impl_ObjectsOfBand.f k x0 x1 x6).bind fun t441 => ((impl_RenderBand.f k t441 x1 x6).bind fun t444 => (if x5.length + t444.length < 5864062014805 then (impl_RenderBands.l0 k x0 x1 (x5 ++ t444) (wrap64 (x6 + 1))) else (none)))) else (some x5))
def impl_RenderBands.f (k : Nat) (l0 : List (S45)) (a1 : Int) : Option ((List (List Int))) := impl_RenderBands.l0 k l0 a1 ([] : List (List Int)) 0
theorem impl_RenderBands.calls (k : Nat) (A0 : Option Addr) (c0 : Nat) (l0 : List (S45)) (a1 : Int) (r : List (List Int)) (w : World) (hr0 : Kd.C k45 w A0 l0.length l0) (hc0 : l0.length ≤ c0) (h : impl_RenderBands.f k l0 a1 = some r) :
  Calls Try.prog 19 #[.slice A0 l0.length c0, .int .i64 a1] w fun e w' => ∃ v0_ : Value, e = .returned (v0_) ∧ Kd.N (Kd.slice 3 (Kd.int .i64)) 71 w' w.heap.size (fun k_ => (w.heap.size ≤ k_)) v0_ r ∧ Below w.heap.size w w' := by
 have HR0 := Aside0.mk hr0
 have HC0 := Aside0.mk hc0
 clear hr0 hc0
 have HB := Aside0.mk (Below.refl w.heap.size w)
 have H : (impl_RenderBands.l0 k l0 a1 ([] : List (List Int)) 0) = some r := h
 clear h
 have H' := Aside0.mk H
 clear H
 go_enter Try.func19, Try.ntmps19
 go_wp2
 go_loopg [5, 6] k (fun kq v5 v6 w' => ∃ (x5_1 : List (List Int)) (x6_1 : Int), v6 = .int .i64 x6_1 ∧ Aside0 (impl_RenderBands.l0 kq l0 a1 x5_1 x6_1 = some r) ∧ Aside0 (kq ≤ k) ∧ Aside0 (Kd.N (Kd.slice 3 (Kd.int .i64)) 71 w' w.heap.size (fun k_ => (w.heap.size ≤ k_)) v5 x5_1) ∧ Aside0 (Below w.heap.size w w'))
 case atStart => exact ⟨(([] : List (List Int))), (0), (by first | rfl | (simp; done) | (simp [*]; done)), H', ⟨Nat.le_refl _⟩, ⟨by first | exact Kd.S_nil _ _ _ _ _ | exact Kd.N_nil _ _ _ _ _ | exact Kd.V_nil _ _ _ _ _ | exact Kd.Q_nil _ _ _ _ _ | exact Kd.R_nil _ _ _ _ _⟩, ⟨bS⟩⟩
 case round =>
  clear H'
  try clear c1
  try clear p2
  obtain ⟨x5_1, x6_1, rfl, HA, HK1, HO_5, HB⟩ := hrel
  cases gk with
  | zero => exact absurd HA.out (by simp [impl_RenderBands.l0])
  | succ k1 =>
   have H := HA.out
   clear HA
   simp only [impl_RenderBands.l0] at H
   replace H := bN H
   obtain ⟨t440, A3, H⟩ := H
   by_cases c4 : x6_1 < t440
   ·rw [if_pos c4] at H
    have c4b0 : decide (x6_1 < t440) = true := decide_eq_true c4
    clear c4
    replace H := bN H
    obtain ⟨t441, A5, H⟩ := H
    replace H := bN H
    obtain ⟨t444, A6, H⟩ := H
    by_cases c7 : x5_1.length + t444.length < 5864062014805
    ·rw [if_pos c7] at H
     have LMc7 := Aside0.mk c7
     clear c7
     obtain ⟨y447, hy447⟩ : ∃ y_ : List (List Int), y_ = (x5_1 ++ t444) := ⟨_, rfl⟩
     replace H : (impl_RenderBands.l0 k1 l0 a1 y447 (wrap64 (x6_1 + 1))) = some r := by first | (rw [hy447]; with_reducible exact H) | (have H2_ := (Option.bind_some _ _).symm.trans H; rw [hy447]; with_reducible exact H2_) | (have H2_ := (Option.bind_some _ _).symm.trans H; with_reducible exact H2_) | with_reducible exact H | (rw [hy447]; exact H) | exact H
     have Ny447 := Aside0.mk hy447
     clear hy447
     have H' := Aside0.mk H
     clear H
     go_wp2_with (first | ((with_reducible refine gC 21 ?_); refine cL (some 9) Try.func21 #[.int .i64 a1] ?_; (with_reducible refine (impl_CountBands.calls a1 t440 _ A3.out).mono ?_); rintro e w' ⟨rfl, ⟨nd, rfl⟩⟩; refine ⟨_, rfl, ?_⟩) | ((with_reducible refine gC 76 ?_); refine cL (some 17) Try.func76 #[.slice A0 l0.length c0, .int .i64 a1, .int .i64 x6_1] ?_; (with_reducible refine (impl_ObjectsOfBand.calls k1 _ _ l0 a1 x6_1 t441 _ ?side1 ?side2 A5.out).mono ?_); (case side1 => exact cS (Kd.C_below HR0.out bS)); (case side2 => exact HC0.out); rintro e w8 ⟨v442, rfl, ho0, hb⟩; refine ⟨_, rfl, ?_⟩; have HO443 := Aside0.mk (Kd.N_lower (Kd.N_mono (ok' := fun k_ => (w.heap.size ≤ k_) ∧ some k_ ≠ (u5 : Value).ownBlock) (Kd.S_N (Kd.S_bound ho0)) (fun k_ hk_ => ⟨(Nat.le_trans (below_size bS) hk_.2.1), (Kd.fresh' (Kd.N_lt (by (with_reducible repeat (first | apply Kd.N_alloc | apply Kd.N_drewN | apply Kd.N_drew)); exact HO_5.out)) k_ hk_.2.1)⟩)) (below_size bS)); replace HO_5 := Aside0.mk (Kd.N_elder' (by (with_reducible repeat (first | apply Kd.N_alloc | apply Kd.N_drewN | apply Kd.N_drew)); exact HO_5.out) (Kd.S_base ho0) hb); replace HB := hB hb; (try clear hb); (try clear hb2); (try clear hk); (try clear hi); (try clear ho0); obtain ⟨Ao9, co9, eo9⟩ := Kd.N_slice HO443.out; subst eo9) | ((with_reducible refine gC 60 ?_); refine cL (some 20) Try.func60 #[.slice Ao9 t441.length co9, .int .i64 a1, .int .i64 x6_1] ?_; (with_reducible refine (impl_RenderBand.calls k1 _ _ t441 a1 x6_1 t444 _ ?side1 ?side2 A6.out).mono ?_); (case side1 => exact cS (Kd.N_reads' HO443.out).2.2); (case side2 => exact (Kd.N_reads' HO443.out).2.1); rintro e w10 ⟨v445, rfl, ho0, hb⟩; refine ⟨_, rfl, ?_⟩; have HO446 := Aside0.mk (Kd.N_lower (Kd.N_mono (ok' := fun k_ => (w.heap.size ≤ k_) ∧ some k_ ≠ (u5 : Value).ownBlock ∧ some k_ ≠ (.slice Ao9 t441.length co9 : Value).ownBlock) (Kd.S_N (Kd.S_bound ho0)) (fun k_ hk_ => ⟨(Nat.le_trans (below_size bS) hk_.2.1), (Kd.fresh' (Kd.N_lt (by (with_reducible repeat (first | apply Kd.N_alloc | apply Kd.N_drewN | apply Kd.N_drew)); exact HO_5.out)) k_ hk_.2.1), (Kd.fresh' (Kd.N_lt (by (with_reducible repeat (first | apply Kd.N_alloc | apply Kd.N_drewN | apply Kd.N_drew)); exact HO443.out)) k_ hk_.2.1)⟩)) (below_size bS)); replace HO_5 := Aside0.mk (Kd.N_elder' (by (with_reducible repeat (first | apply Kd.N_alloc | apply Kd.N_drewN | apply Kd.N_drew)); exact HO_5.out) (Kd.S_base ho0) hb); replace HO443 := Aside0.mk (Kd.N_elder' (by (with_reducible repeat (first | apply Kd.N_alloc | apply Kd.N_drewN | apply Kd.N_drew)); exact HO443.out) (Kd.S_base ho0) hb); replace HB := hB hb; (try clear hb); (try clear hb2); (try clear hk); (try clear hi); (try clear ho0); obtain ⟨Ao12, co12, eo12⟩ := Kd.N_slice HO446.out; subst eo12) | ((with_reducible refine gate_builtin (b := .append) (xs := #[.tmp 13, .tmp 20]) rfl ?_); at_builtin; refine Kd.N_append_rows (Kd.slice 3 (Kd.int .i64)) (w0 := w) w.heap.size rfl (.tmp 13) (.tmp 20) 27 71 (.slice none 0 0) 24 rfl Try.underlying27 info71 rfl (by decide) (by omega) u5 x5_1 t444 _ _ _ (fun k_ => (w.heap.size ≤ k_) ∧ some k_ ≠ (.slice Ao9 t441.length co9 : Value).ownBlock) (fun k_ => ((fun k_ => (w.heap.size ≤ k_) ∧ some k_ ≠ (.slice Ao9 t441.length co9 : Value).ownBlock)) k_ ∧ some k_ ≠ (u5 : Value).ownBlock) rfl rfl ?aO ?aR (fun _ hk => hk) ?aF ?aB ?aS ?aL ?_; (case aR => exact (by skip; exact Kd.N_F (Kd.N_mono (ok' := (fun k_ => ((fun k_ => (w.heap.size ≤ k_) ∧ some k_ ≠ (.slice Ao9 t441.length co9 : Value).ownBlock)) k_ ∧ some k_ ≠ (u5 : Value).ownBlock)) (HO446.out) (fun k_ hk => ⟨⟨hk.1, hk.2.2⟩, hk.2.1⟩)))); (case aB => exact bS); (case aF => exact (fun k_ hk => ⟨(Nat.le_trans (below_size bS) hk), Kd.fresh' (Kd.N_lt (by (with_reducible repeat (first | apply Kd.N_alloc | apply Kd.N_drewN | apply Kd.N_drew)); exact HO443.out)) k_ hk⟩)); (case aO => exact (by (with_reducible repeat (first | apply Kd.N_alloc | apply Kd.N_drewN | apply Kd.N_drew)); exact Kd.N_mono HO_5.out (fun _ hk => ⟨hk.1.1, hk.1.2⟩))); (case aS => exact (below_size bS)); (case aL => have := LMc7.out; omega); intro v448 w11 ho hb hg hat; rw [← Ny447.out] at ho; have HO449 := Aside0.mk (ho); replace HO443 := Aside0.mk (Kd.N_afterv (ok := (fun k_ => (w.heap.size ≤ k_) ∧ some k_ ≠ (.slice Ao12 t444.length co12 : Value).ownBlock)) (by (with_reducible repeat (first | apply Kd.N_alloc | apply Kd.N_drewN | apply Kd.N_drew)); exact Kd.N_mono HO443.out (fun _ hk => ⟨⟨hk.1.1, hk.2⟩, hk.1.2⟩)) hg hat); replace HO446 := Aside0.mk (Kd.N_afterv (ok := (fun k_ => (w.heap.size ≤ k_) ∧ some k_ ≠ (.slice Ao9 t441.length co9 : Value).ownBlock)) (by (with_reducible repeat (first | apply Kd.N_alloc | apply Kd.N_drewN | apply Kd.N_drew)); exact Kd.N_mono HO446.out (fun _ hk => ⟨⟨hk.1, hk.2.2⟩, hk.2.1⟩)) hg hat); replace HB := Aside0.mk (hb); clear HO_5; clear ho hb hg hat))
     go_roundg k1
     case measure => have := HK1.out; omega
     case rel => exact ⟨(y447), (wrap64 (x6_1 + 1)), (by first | rfl | (simp; done) | (simp [*]; done)), H', ⟨by have := HK1.out; omega⟩, ⟨by (with_reducible repeat (first | apply Kd.N_alloc | apply Kd.N_drewN | apply Kd.N_drew)); exact Kd.N_mono HO449.out (fun _ hk => hk.1)⟩, ⟨bS⟩⟩
    ·rw [if_neg c7] at H
     exact absurd H (by simp)
   ·rw [if_neg c4] at H
    have c4b0 : decide (x6_1 < t440) = false := decide_eq_false c4
    clear c4
    obtain rfl := Option.some.inj H
    simp only [Option.some.injEq, Prod.mk.injEq] at H
    obtain ⟨rfl⟩ := H
    go_wp2_with (first | ((with_reducible refine gC 21 ?_); refine cL (some 9) Try.func21 #[.int .i64 a1] ?_; (with_reducible refine (impl_CountBands.calls a1 t440 _ A3.out).mono ?_); rintro e w' ⟨rfl, ⟨nd, rfl⟩⟩; refine ⟨_, rfl, ?_⟩))
    go_ret
    exact ⟨_, eS, by (with_reducible repeat (first | apply Kd.N_alloc | apply Kd.N_drewN | apply Kd.N_drew)); exact HO_5.out, bS⟩

/-! ### slices_Equal_int_int: function 79 -/
def slices_Equal_int_int.l0 : Nat → List Int → List Int → Int → Int → Option (Bool)
 | 0, _, _, _, _ => none
 | k + 1, x0, x1, x12, x13 => if x13 < x12 then (if 0 ≤ x13 then (if x13 < (x0.length : Int) then (if x13 < (x1.length : Int) then (if (rd x0 x13) = (rd x1 x13) then (slices_Equal_int_int.l0 k x0 x1 x12 (wrap64 (x13 + 1))) else (some false)) else (none)) else (none)) else (none)) else (some true)
def slices_Equal_int_int.f (k : Nat) (l0 : List Int) (l1 : List Int) : Option (Bool) := if (l0.length : Int) = (l1.length : Int) then (slices_Equal_int_int.l0 k l0 l1 (l0.length : Int) 0) else (some false)
theorem slices_Equal_int_int.calls (k : Nat) (A0 : Option Addr) (c0 : Nat) (l0 : List Int) (A1 : Option Addr) (c1 : Nat) (l1 : List Int) (r : Bool) (w : World) (hr0 : Kd.C (Kd.int .i64) w A0 l0.length l0) (hc0 : l0.length ≤ c0) (hr1 : Kd.C (Kd.int .i64) w A1 l1.length l1) (hc1 : l1.length ≤ c1) (h : slices_Equal_int_int.f k l0 l1 = some r) :
  Calls Try.prog 79 #[.slice A0 l0.length c0, .slice A1 l1.length c1] w fun e w' => e = .returned (.bool r) ∧ Drawn0 w w' := by
 have HR0 := Aside0.mk hr0
 have HC0 := Aside0.mk hc0
 clear hr0 hc0
 have HR1 := Aside0.mk hr1
 have HC1 := Aside0.mk hc1
 clear hr1 hc1
 have H : (if (l0.length : Int) = (l1.length : Int) then (slices_Equal_int_int.l0 k l0 l1 (l0.length : Int) 0) else (some false)) = some r := h
 clear h
 by_cases c3 : (l0.length : Int) = (l1.length : Int)
 ·rw [if_pos c3] at H
  have c3b0 : ((l0.length : Int) == (l1.length : Int)) = true := beq_iff_eq.mpr c3
  have c3b1 : ((l0.length : Int) != (l1.length : Int)) = false := bne_eq_false_iff_eq.mpr c3
  have c3b2 : (l0.length == l1.length) = true := by first | simpa using c3 | (simp at c3 ⊢; omega)
  clear c3
  have H' := Aside0.mk H
  clear H
  go_enter Try.func79, Try.ntmps79
  go_wp2
  repeat (go_quiet (fail); try go_wp2)
  go_loopg [13] k (fun kq v13 w' => ∃ (x13_1 : Int), v13 = .int .i64 x13_1 ∧ Aside0 (slices_Equal_int_int.l0 kq l0 l1 (l0.length : Int) x13_1 = some r) ∧ Aside0 (kq ≤ k) ∧ Drawn0 w w')
  case atStart => exact ⟨(0), (by first | rfl | (simp; done) | (simp [*]; done)), H', ⟨Nat.le_refl _⟩, by repeat (first | exact Drawn0.refl _ | apply Drawn0.step)⟩
  case round =>
   clear H'
   try clear c1
   try clear p2
   try clear c3
   try clear c3b0
   try clear c3b1
   try clear c3b2
   obtain ⟨x13_1, rfl, HA, HK1, ⟨m1, rfl⟩⟩ := hrel
   cases gk with
   | zero => exact absurd HA.out (by simp [slices_Equal_int_int.l0])
   | succ k1 =>
    have H := HA.out
    clear HA
    simp only [slices_Equal_int_int.l0] at H
    by_cases c4 : x13_1 < (l0.length : Int)
    ·rw [if_pos c4] at H
     have c4b0 : decide (x13_1 < (l0.length : Int)) = true := decide_eq_true c4
     clear c4
     by_cases c5 : 0 ≤ x13_1
     ·rw [if_pos c5] at H
      have c5b0 : decide (0 ≤ x13_1) = true := decide_eq_true c5
      clear c5
      by_cases c6 : x13_1 < (l0.length : Int)
      ·rw [if_pos c6] at H
       have c6b0 : decide (x13_1 < (l0.length : Int)) = true := decide_eq_true c6
       clear c6
       by_cases c7 : x13_1 < (l1.length : Int)
       ·rw [if_pos c7] at H
        have c7b0 : decide (x13_1 < (l1.length : Int)) = true := decide_eq_true c7
        clear c7
        by_cases c8 : (rd l0 x13_1) = (rd l1 x13_1)
        ·rw [if_pos c8] at H
         have c8b0 : ((rd l0 x13_1) == (rd l1 x13_1)) = true := beq_iff_eq.mpr c8
         have c8b1 : ((rd l0 x13_1) != (rd l1 x13_1)) = false := bne_eq_false_iff_eq.mpr c8
         clear c8
         have H' := Aside0.mk H
         clear H
         have p450 : 0 ≤ (x13_1 : Int) := of_decide_eq_true (by first | (with_reducible assumption) | assumption)
         have q450 : x13_1 < (l0.length : Int) := of_decide_eq_true (by first | (with_reducible assumption) | assumption)
         obtain ⟨ad450, e450, hx450_0⟩ := Kd.at_int HR0.out x13_1 p450 q450
         cases e450
         replace p450 := eq_true p450
         replace q450 := eq_true q450
         have p451 : 0 ≤ (x13_1 : Int) := of_decide_eq_true (by first | (with_reducible assumption) | assumption)
         have q451 : x13_1 < (l1.length : Int) := of_decide_eq_true (by first | (with_reducible assumption) | assumption)
         obtain ⟨ad451, e451, hx451_0⟩ := Kd.at_int HR1.out x13_1 p451 q451
         cases e451
         replace p451 := eq_true p451
         replace q451 := eq_true q451
         go_wp2
         repeat (go_quiet (fail); try go_wp2)
         go_roundg k1
         case measure => have := HK1.out; omega
         case rel => exact ⟨(wrap64 (x13_1 + 1)), (by first | rfl | (simp; done) | (simp [*]; done)), H', ⟨by have := HK1.out; omega⟩, by repeat (first | exact Drawn0.refl _ | apply Drawn0.step)⟩
        ·rw [if_neg c8] at H
         have c8b0 : ((rd l0 x13_1) == (rd l1 x13_1)) = false := beq_eq_false_iff_ne.mpr c8
         have c8b1 : ((rd l0 x13_1) != (rd l1 x13_1)) = true := bne_iff_ne.mpr c8
         obtain rfl := Option.some.inj H
         simp only [Option.some.injEq, Prod.mk.injEq] at H
         obtain ⟨rfl⟩ := H
         have p450 : 0 ≤ (x13_1 : Int) := of_decide_eq_true (by first | (with_reducible assumption) | assumption)
         have q450 : x13_1 < (l0.length : Int) := of_decide_eq_true (by first | (with_reducible assumption) | assumption)
         obtain ⟨ad450, e450, hx450_0⟩ := Kd.at_int HR0.out x13_1 p450 q450
         cases e450
         replace p450 := eq_true p450
         replace q450 := eq_true q450
         have p451 : 0 ≤ (x13_1 : Int) := of_decide_eq_true (by first | (with_reducible assumption) | assumption)
         have q451 : x13_1 < (l1.length : Int) := of_decide_eq_true (by first | (with_reducible assumption) | assumption)
         obtain ⟨ad451, e451, hx451_0⟩ := Kd.at_int HR1.out x13_1 p451 q451
         cases e451
         replace p451 := eq_true p451
         replace q451 := eq_true q451
         go_wp2
         repeat (go_quiet (fail); try go_wp2)
         go_ret
         exact ⟨by first | rfl | (simp; done) | (simp [*]; done), by repeat (first | exact Drawn0.refl _ | apply Drawn0.step)⟩
       ·rw [if_neg c7] at H
        exact absurd H (by simp)
      ·rw [if_neg c6] at H
       exact absurd H (by simp)
     ·rw [if_neg c5] at H
      exact absurd H (by simp)
    ·rw [if_neg c4] at H
     have c4b0 : decide (x13_1 < (l0.length : Int)) = false := decide_eq_false c4
     clear c4
     obtain rfl := Option.some.inj H
     simp only [Option.some.injEq, Prod.mk.injEq] at H
     obtain ⟨rfl⟩ := H
     go_wp2
     repeat (go_quiet (fail); try go_wp2)
     go_ret
     exact ⟨by first | rfl | (simp; done) | (simp [*]; done), by repeat (first | exact Drawn0.refl _ | apply Drawn0.step)⟩
 ·rw [if_neg c3] at H
  have c3b0 : ((l0.length : Int) == (l1.length : Int)) = false := beq_eq_false_iff_ne.mpr c3
  have c3b1 : ((l0.length : Int) != (l1.length : Int)) = true := bne_iff_ne.mpr c3
  have c3b2 : (l0.length == l1.length) = false := by first | simpa using c3 | (simp at c3 ⊢; omega)
  obtain rfl := Option.some.inj H
  simp only [Option.some.injEq, Prod.mk.injEq] at H
  obtain ⟨rfl⟩ := H
  go_enter Try.func79, Try.ntmps79
  go_wp2
  repeat (go_quiet (fail); try go_wp2)
  go_ret
  exact ⟨by first | rfl | (simp; done) | (simp [*]; done), by repeat (first | exact Drawn0.refl _ | apply Drawn0.step)⟩

/-! ### impl_SameRows_1: function 78 -/
def impl_SameRows_1.f (k : Nat) (l0 : List Int) (l1 : List Int) : Option (Bool) := (slices_Equal_int_int.f k l0 l1).bind fun t452 => (some t452)
theorem impl_SameRows_1.calls (k : Nat) (A0 : Option Addr) (c0 : Nat) (l0 : List Int) (A1 : Option Addr) (c1 : Nat) (l1 : List Int) (r : Bool) (w : World) (hr0 : Kd.C (Kd.int .i64) w A0 l0.length l0) (hc0 : l0.length ≤ c0) (hr1 : Kd.C (Kd.int .i64) w A1 l1.length l1) (hc1 : l1.length ≤ c1) (h : impl_SameRows_1.f k l0 l1 = some r) :
  Calls Try.prog 78 #[.slice A0 l0.length c0, .slice A1 l1.length c1] w fun e w' => e = .returned (.bool r) ∧ Drawn0 w w' := by
 have HR0 := Aside0.mk hr0
 have HC0 := Aside0.mk hc0
 clear hr0 hc0
 have HR1 := Aside0.mk hr1
 have HC1 := Aside0.mk hc1
 clear hr1 hc1
 have H : ((slices_Equal_int_int.f k l0 l1).bind fun t452 => (some t452)) = some r := h
 clear h
 replace H := bN H
 obtain ⟨t452, A3, H⟩ := H
 obtain rfl := Option.some.inj H
 simp only [Option.some.injEq, Prod.mk.injEq] at H
 obtain ⟨rfl⟩ := H
 go_enter Try.func78, Try.ntmps78
 go_wp2_with (first | ((with_reducible refine gC 79 ?_); refine cL (some 7) Try.func79 #[.slice A0 l0.length c0, .slice A1 l1.length c1] ?_; (with_reducible refine (slices_Equal_int_int.calls k _ _ l0 _ _ l1 t452 _ ?side1 ?side2 ?side3 ?side4 A3.out).mono ?_); (case side1 => repeat (first | exact HR0.out | (with_reducible refine Kd.C_alloc ?_ _) | (with_reducible refine Kd.C_drewN ?_ _) | (with_reducible refine Kd.C_drew ?_))); (case side2 => exact HC0.out); (case side3 => repeat (first | exact HR1.out | (with_reducible refine Kd.C_alloc ?_ _) | (with_reducible refine Kd.C_drewN ?_ _) | (with_reducible refine Kd.C_drew ?_))); (case side4 => exact HC1.out); rintro e w' ⟨rfl, ⟨nd, rfl⟩⟩; refine ⟨_, rfl, ?_⟩))
 go_ret
 exact ⟨by first | rfl | (simp; done) | (simp [*]; done), by repeat (first | exact Drawn0.refl _ | apply Drawn0.step)⟩

/-! ### slices_EqualFunc_int_int_int_int: function 77 -/
def slices_EqualFunc_int_int_int_int.l0 : Nat → List (List Int) → List (List Int) → Int → Int → Option (Bool)
 | 0, _, _, _, _ => none
 | k + 1, x1, x15, x16, x17 => if x17 < x16 then (if 0 ≤ x17 then (if x17 < (x15.length : Int) then (if x17 < (x1.length : Int) then ((impl_SameRows_1.f k (rd_L6 x15 x17) (rd_L6 x1 x17)).bind fun t455 => (if t455 = true then (slices_EqualFunc_int_int_int_int.l0 k x1 x15 x16 (wrap64 (x17 + 1))) else (some false))) else (none)) else (none)) else (none)) else (some true)
def slices_EqualFunc_int_int_int_int.f (k : Nat) (l0 : List (List Int)) (l1 : List (List Int))  : Option (Bool) := if (l0.length : Int) = (l1.length : Int) then (slices_EqualFunc_int_int_int_int.l0 k l1 l0 (l0.length : Int) 0) else (some false)
theorem slices_EqualFunc_int_int_int_int.calls (k : Nat) (A0 : Option Addr) (c0 : Nat) (l0 : List (List Int)) (A1 : Option Addr) (c1 : Nat) (l1 : List (List Int))  (r : Bool) (w : World) (hr0 : Kd.C (Kd.slice 3 (Kd.int .i64)) w A0 l0.length l0) (hc0 : l0.length ≤ c0) (hr1 : Kd.C (Kd.slice 3 (Kd.int .i64)) w A1 l1.length l1) (hc1 : l1.length ≤ c1) (h : slices_EqualFunc_int_int_int_int.f k l0 l1 = some r) :
  Calls Try.prog 77 #[.slice A0 l0.length c0, .slice A1 l1.length c1, .func (.func 78) #[] #[]] w fun e w' => e = .returned (.bool r) ∧ Drawn0 w w' := by
 have HR0 := Aside0.mk hr0
 have HC0 := Aside0.mk hc0
 clear hr0 hc0
 have HR1 := Aside0.mk hr1
 have HC1 := Aside0.mk hc1
 clear hr1 hc1
 have H : (if (l0.length : Int) = (l1.length : Int) then (slices_EqualFunc_int_int_int_int.l0 k l1 l0 (l0.length : Int) 0) else (some false)) = some r := h
 clear h
 by_cases c4 : (l0.length : Int) = (l1.length : Int)
 ·rw [if_pos c4] at H
  have c4b0 : ((l0.length : Int) == (l1.length : Int)) = true := beq_iff_eq.mpr c4
  have c4b1 : ((l0.length : Int) != (l1.length : Int)) = false := bne_eq_false_iff_eq.mpr c4
  have c4b2 : (l0.length == l1.length) = true := by first | simpa using c4 | (simp at c4 ⊢; omega)
  clear c4
  have H' := Aside0.mk H
  clear H
  go_enter Try.func77, Try.ntmps77
  go_wp2
  go_loopg [17] k (fun kq v17 w' => ∃ (x17_1 : Int), v17 = .int .i64 x17_1 ∧ Aside0 (slices_EqualFunc_int_int_int_int.l0 kq l1 l0 (l0.length : Int) x17_1 = some r) ∧ Aside0 (kq ≤ k) ∧ Drawn0 w w')
  case atStart => exact ⟨(0), (by first | rfl | (simp; done) | (simp [*]; done)), H', ⟨Nat.le_refl _⟩, by repeat (first | exact Drawn0.refl _ | apply Drawn0.step)⟩
  case round =>
   clear H'
   try clear c1
   try clear p2
   try clear c4
   try clear c4b0
   try clear c4b1
   try clear c4b2
   obtain ⟨x17_1, rfl, HA, HK1, ⟨m1, rfl⟩⟩ := hrel
   cases gk with
   | zero => exact absurd HA.out (by simp [slices_EqualFunc_int_int_int_int.l0])
   | succ k1 =>
    have H := HA.out
    clear HA
    simp only [slices_EqualFunc_int_int_int_int.l0] at H
    by_cases c5 : x17_1 < (l0.length : Int)
    ·rw [if_pos c5] at H
     have c5b0 : decide (x17_1 < (l0.length : Int)) = true := decide_eq_true c5
     clear c5
     by_cases c6 : 0 ≤ x17_1
     ·rw [if_pos c6] at H
      have c6b0 : decide (0 ≤ x17_1) = true := decide_eq_true c6
      clear c6
      by_cases c7 : x17_1 < (l0.length : Int)
      ·rw [if_pos c7] at H
       have c7b0 : decide (x17_1 < (l0.length : Int)) = true := decide_eq_true c7
       clear c7
       by_cases c8 : x17_1 < (l1.length : Int)
       ·rw [if_pos c8] at H
        have c8b0 : decide (x17_1 < (l1.length : Int)) = true := decide_eq_true c8
        clear c8
        replace H := bN H
        obtain ⟨t455, A9, H⟩ := H
        by_cases c10 : t455 = true
        ·subst c10
         rw [if_pos rfl] at H
         have H' := Aside0.mk H
         clear H
         have p453 : 0 ≤ (x17_1 : Int) := of_decide_eq_true (by first | (with_reducible assumption) | assumption)
         have q453 : x17_1 < (l0.length : Int) := of_decide_eq_true (by first | (with_reducible assumption) | assumption)
         obtain ⟨ad453, A453_0, c453_0, e453, hx453_0, hl453_0, hi453_0⟩ := at_L6 HR0.out x17_1 p453 q453
         cases e453
         have HR453_0 := Aside0.mk hi453_0
         have HC453_0 := Aside0.mk hl453_0
         clear hi453_0 hl453_0
         replace p453 := eq_true p453
         replace q453 := eq_true q453
         have p454 : 0 ≤ (x17_1 : Int) := of_decide_eq_true (by first | (with_reducible assumption) | assumption)
         have q454 : x17_1 < (l1.length : Int) := of_decide_eq_true (by first | (with_reducible assumption) | assumption)
         obtain ⟨ad454, A454_0, c454_0, e454, hx454_0, hl454_0, hi454_0⟩ := at_L6 HR1.out x17_1 p454 q454
         cases e454
         have HR454_0 := Aside0.mk hi454_0
         have HC454_0 := Aside0.mk hl454_0
         clear hi454_0 hl454_0
         replace p454 := eq_true p454
         replace q454 := eq_true q454
         go_wp2_with (first | (go_at_call 78; (with_reducible refine (impl_SameRows_1.calls k1 _ _ (rd_L6 l0 x17_1) _ _ (rd_L6 l1 x17_1) _ _ ?side1 ?side2 ?side3 ?side4 A9.out).mono ?_); (case side1 => repeat (first | exact HR453_0.out | (with_reducible refine Kd.C_alloc ?_ _) | (with_reducible refine Kd.C_drewN ?_ _) | (with_reducible refine Kd.C_drew ?_))); (case side2 => exact HC453_0.out); (case side3 => repeat (first | exact HR454_0.out | (with_reducible refine Kd.C_alloc ?_ _) | (with_reducible refine Kd.C_drewN ?_ _) | (with_reducible refine Kd.C_drew ?_))); (case side4 => exact HC454_0.out); rintro e w' ⟨rfl, ⟨nd, rfl⟩⟩))
         go_roundg k1
         case measure => have := HK1.out; omega
         case rel => exact ⟨(wrap64 (x17_1 + 1)), (by first | rfl | (simp; done) | (simp [*]; done)), H', ⟨by have := HK1.out; omega⟩, by repeat (first | exact Drawn0.refl _ | apply Drawn0.step)⟩
        ·obtain rfl := Bool.eq_false_iff.mpr c10
         rw [if_neg nF] at H
         obtain rfl := Option.some.inj H
         simp only [Option.some.injEq, Prod.mk.injEq] at H
         obtain ⟨rfl⟩ := H
         have p453 : 0 ≤ (x17_1 : Int) := of_decide_eq_true (by first | (with_reducible assumption) | assumption)
         have q453 : x17_1 < (l0.length : Int) := of_decide_eq_true (by first | (with_reducible assumption) | assumption)
         obtain ⟨ad453, A453_0, c453_0, e453, hx453_0, hl453_0, hi453_0⟩ := at_L6 HR0.out x17_1 p453 q453
         cases e453
         have HR453_0 := Aside0.mk hi453_0
         have HC453_0 := Aside0.mk hl453_0
         clear hi453_0 hl453_0
         replace p453 := eq_true p453
         replace q453 := eq_true q453
         have p454 : 0 ≤ (x17_1 : Int) := of_decide_eq_true (by first | (with_reducible assumption) | assumption)
         have q454 : x17_1 < (l1.length : Int) := of_decide_eq_true (by first | (with_reducible assumption) | assumption)
         obtain ⟨ad454, A454_0, c454_0, e454, hx454_0, hl454_0, hi454_0⟩ := at_L6 HR1.out x17_1 p454 q454
         cases e454
         have HR454_0 := Aside0.mk hi454_0
         have HC454_0 := Aside0.mk hl454_0
         clear hi454_0 hl454_0
         replace p454 := eq_true p454
         replace q454 := eq_true q454
         go_wp2_with (first | (go_at_call 78; (with_reducible refine (impl_SameRows_1.calls k1 _ _ (rd_L6 l0 x17_1) _ _ (rd_L6 l1 x17_1) _ _ ?side1 ?side2 ?side3 ?side4 A9.out).mono ?_); (case side1 => repeat (first | exact HR453_0.out | (with_reducible refine Kd.C_alloc ?_ _) | (with_reducible refine Kd.C_drewN ?_ _) | (with_reducible refine Kd.C_drew ?_))); (case side2 => exact HC453_0.out); (case side3 => repeat (first | exact HR454_0.out | (with_reducible refine Kd.C_alloc ?_ _) | (with_reducible refine Kd.C_drewN ?_ _) | (with_reducible refine Kd.C_drew ?_))); (case side4 => exact HC454_0.out); rintro e w' ⟨rfl, ⟨nd, rfl⟩⟩))
         go_ret
         exact ⟨by first | rfl | (simp; done) | (simp [*]; done), by repeat (first | exact Drawn0.refl _ | apply Drawn0.step)⟩
       ·rw [if_neg c8] at H
        exact absurd H (by simp)
      ·rw [if_neg c7] at H
       exact absurd H (by simp)
     ·rw [if_neg c6] at H
      exact absurd H (by simp)
    ·rw [if_neg c5] at H
     have c5b0 : decide (x17_1 < (l0.length : Int)) = false := decide_eq_false c5
     clear c5
     obtain rfl := Option.some.inj H
     simp only [Option.some.injEq, Prod.mk.injEq] at H
     obtain ⟨rfl⟩ := H
     go_wp2
     go_ret
     exact ⟨by first | rfl | (simp; done) | (simp [*]; done), by repeat (first | exact Drawn0.refl _ | apply Drawn0.step)⟩
 ·rw [if_neg c4] at H
  have c4b0 : ((l0.length : Int) == (l1.length : Int)) = false := beq_eq_false_iff_ne.mpr c4
  have c4b1 : ((l0.length : Int) != (l1.length : Int)) = true := bne_iff_ne.mpr c4
  have c4b2 : (l0.length == l1.length) = false := by first | simpa using c4 | (simp at c4 ⊢; omega)
  obtain rfl := Option.some.inj H
  simp only [Option.some.injEq, Prod.mk.injEq] at H
  obtain ⟨rfl⟩ := H
  go_enter Try.func77, Try.ntmps77
  go_wp2
  go_ret
  exact ⟨by first | rfl | (simp; done) | (simp [*]; done), by repeat (first | exact Drawn0.refl _ | apply Drawn0.step)⟩

/-! ### impl_SameRows: function 22 -/
def impl_SameRows.f (k : Nat) (l0 : List (List Int)) (l1 : List (List Int)) : Option (Bool) := (slices_EqualFunc_int_int_int_int.f k l0 l1).bind fun t456 => (some t456)
theorem impl_SameRows.calls (k : Nat) (A0 : Option Addr) (c0 : Nat) (l0 : List (List Int)) (A1 : Option Addr) (c1 : Nat) (l1 : List (List Int)) (r : Bool) (w : World) (hr0 : Kd.C (Kd.slice 3 (Kd.int .i64)) w A0 l0.length l0) (hc0 : l0.length ≤ c0) (hr1 : Kd.C (Kd.slice 3 (Kd.int .i64)) w A1 l1.length l1) (hc1 : l1.length ≤ c1) (h : impl_SameRows.f k l0 l1 = some r) :
  Calls Try.prog 22 #[.slice A0 l0.length c0, .slice A1 l1.length c1] w fun e w' => e = .returned (.bool r) ∧ Drawn0 w w' := by
 have HR0 := Aside0.mk hr0
 have HC0 := Aside0.mk hc0
 clear hr0 hc0
 have HR1 := Aside0.mk hr1
 have HC1 := Aside0.mk hc1
 clear hr1 hc1
 have H : ((slices_EqualFunc_int_int_int_int.f k l0 l1).bind fun t456 => (some t456)) = some r := h
 clear h
 replace H := bN H
 obtain ⟨t456, A3, H⟩ := H
 obtain rfl := Option.some.inj H
 simp only [Option.some.injEq, Prod.mk.injEq] at H
 obtain ⟨rfl⟩ := H
 go_enter Try.func22, Try.ntmps22
 go_wp2_with (first | ((with_reducible refine gC 77 ?_); refine cL (some 7) Try.func77 #[.slice A0 l0.length c0, .slice A1 l1.length c1, .func (.func 78) #[] #[]] ?_; (with_reducible refine (slices_EqualFunc_int_int_int_int.calls k _ _ l0 _ _ l1  t456 _ ?side1 ?side2 ?side3 ?side4 A3.out).mono ?_); (case side1 => repeat (first | exact HR0.out | (with_reducible refine Kd.C_alloc ?_ _) | (with_reducible refine Kd.C_drewN ?_ _) | (with_reducible refine Kd.C_drew ?_))); (case side2 => exact HC0.out); (case side3 => repeat (first | exact HR1.out | (with_reducible refine Kd.C_alloc ?_ _) | (with_reducible refine Kd.C_drewN ?_ _) | (with_reducible refine Kd.C_drew ?_))); (case side4 => exact HC1.out); rintro e w' ⟨rfl, ⟨nd, rfl⟩⟩; refine ⟨_, rfl, ?_⟩))
 go_ret
 exact ⟨by first | rfl | (simp; done) | (simp [*]; done), by repeat (first | exact Drawn0.refl _ | apply Drawn0.step)⟩

/-! ### laws_FnBands: function 3 -/
def laws_FnBands.f (k : Nat) (l0 : List Int) : Option (Bool) := (laws_big.f l0).bind fun t457 => (if t457 = true then (some true) else ((spec_DrawList.f k l0).bind fun t458 => ((spec_DrawHeight.f k l0).bind fun t461 => ((impl_PaintAll.f k t458).bind fun bt462 => ((impl_RenderBands.f k t458 t461).bind fun t466 => (if bt462.2 = true then ((impl_IsHeight.f t461).bind fun t469 => (if t469 = true then ((impl_CountBands.f t461).bind fun t470 => (if (wrap64 (t470 * t461)) = 32 then ((impl_SameRows.f k bt462.1 t466).bind fun t471 => (some t471)) else (some false))) else (some false))) else (some false)))))))
theorem laws_FnBands.lf0 {p : Prop} (h : p := by
 go_enter Try.func3, Try.ntmps3
 go_wp2_with (first | ((with_reducible refine gC 15 ?_); refine cL (some 9) Try.func15 #[.slice A0 l0.length c0] ?_; (with_reducible refine (laws_big.calls _ _ l0 _ _ ?side1 ?side2 A2.out).mono ?_); (case side1 => repeat (first | exact HR0.out | (with_reducible refine Kd.C_alloc ?_ _) | (with_reducible refine Kd.C_drewN ?_ _) | (with_reducible refine Kd.C_drew ?_))); (case side2 => exact HC0.out); rintro e w' ⟨rfl, ⟨nd, rfl⟩⟩; refine ⟨_, rfl, ?_⟩) | ((with_reducible refine gC 16 ?_); refine cL (some 11) Try.func16 #[.slice A0 l0.length c0] ?_; (with_reducible refine (spec_DrawList.calls k _ _ l0 t458 _ ?side1 ?side2 A4.out).mono ?_); (case side1 => repeat (first | exact HR0.out | (with_reducible refine Kd.C_alloc ?_ _) | (with_reducible refine Kd.C_drewN ?_ _) | (with_reducible refine Kd.C_drew ?_))); (case side2 => exact HC0.out); rintro e w14 ⟨v459, rfl, ho0, hb⟩; refine ⟨_, rfl, ?_⟩; have HO460 := Aside0.mk (Kd.N_lower (Kd.N_mono (ok' := fun k_ => True) (Kd.S_N (Kd.S_bound ho0)) (fun k_ hk_ => trivial)) (below_size bS)); replace HB := hB hb; (try clear hb); (try clear hb2); (try clear hk); (try clear hi); (try clear ho0)) | ((with_reducible refine gC 17 ?_); refine cL (some 13) Try.func17 #[.slice A0 l0.length c0] ?_; (with_reducible refine (spec_DrawHeight.calls k _ _ l0 t461 _ ?side1 ?side2 A5.out).mono ?_); (case side1 => exact cS (Kd.C_below HR0.out HB.out)); (case side2 => exact HC0.out); rintro e w15 ⟨rfl, hb⟩; refine ⟨_, rfl, ?_⟩; replace HO460 := Aside0.mk (Kd.N_below (by (with_reducible repeat (first | apply Kd.N_alloc | apply Kd.N_drewN | apply Kd.N_drew)); exact HO460.out) hb); replace HB := hB hb; (try clear hb); (try clear hb2); (try clear hk); (try clear hi); obtain ⟨Ao16, co16, eo16⟩ := Kd.N_slice HO460.out; subst eo16) | ((with_reducible refine gC 18 ?_); refine cL (some 16) Try.func18 #[.slice Ao16 t458.length co16] ?_; (with_reducible refine (impl_PaintAll.calls k _ _ t458 t462 _ _ ?side1 ?side2 A6.out).mono ?_); (case side1 => exact cS (Kd.N_reads' HO460.out).2.2); (case side2 => exact (Kd.N_reads' HO460.out).2.1); rintro e w17 ⟨v464, rfl, ho0, hb⟩; refine ⟨_, rfl, ?_⟩; have HO465 := Aside0.mk (Kd.N_lower (Kd.N_mono (ok' := fun k_ => some k_ ≠ (.slice Ao16 t458.length co16 : Value).ownBlock) (Kd.S_N (Kd.S_bound ho0)) (fun k_ hk_ => (Kd.fresh' (Kd.N_lt (by (with_reducible repeat (first | apply Kd.N_alloc | apply Kd.N_drewN | apply Kd.N_drew)); exact HO460.out)) k_ hk_.2.1))) (below_size bS)); replace HO460 := Aside0.mk (Kd.N_elder' (by (with_reducible repeat (first | apply Kd.N_alloc | apply Kd.N_drewN | apply Kd.N_drew)); exact HO460.out) (Kd.S_base ho0) hb); replace HB := hB hb; (try clear hb); (try clear hb2); (try clear hk); (try clear hi); (try clear ho0)) | ((with_reducible refine gC 19 ?_); refine cL (some 21) Try.func19 #[.slice Ao16 t458.length co16, .int .i64 t461] ?_; (with_reducible refine (impl_RenderBands.calls k _ _ t458 t461 t466 _ ?side1 ?side2 A7.out).mono ?_); (case side1 => exact cS (Kd.N_reads' HO460.out).2.2); (case side2 => exact (Kd.N_reads' HO460.out).2.1); rintro e w18 ⟨v467, rfl, ho0, hb⟩; refine ⟨_, rfl, ?_⟩; have HO468 := Aside0.mk (Kd.N_lower (Kd.N_mono (ok' := fun k_ => some k_ ≠ (.slice Ao16 t458.length co16 : Value).ownBlock ∧ some k_ ≠ (v464 : Value).ownBlock) ho0 (fun k_ hk_ => ⟨(Kd.fresh' (Kd.N_lt (by (with_reducible repeat (first | apply Kd.N_alloc | apply Kd.N_drewN | apply Kd.N_drew)); exact HO460.out)) k_ hk_), (Kd.fresh' (Kd.N_lt (by (with_reducible repeat (first | apply Kd.N_alloc | apply Kd.N_drewN | apply Kd.N_drew)); exact HO465.out)) k_ hk_)⟩)) (below_size bS)); replace HO460 := Aside0.mk (Kd.N_elder' (by (with_reducible repeat (first | apply Kd.N_alloc | apply Kd.N_drewN | apply Kd.N_drew)); exact HO460.out) (Kd.N_base ho0) hb); replace HO465 := Aside0.mk (Kd.N_elder' (by (with_reducible repeat (first | apply Kd.N_alloc | apply Kd.N_drewN | apply Kd.N_drew)); exact HO465.out) (Kd.N_base ho0) hb); replace HB := hB hb; (try clear hb); (try clear hb2); (try clear hk); (try clear hi); (try clear ho0)) | (go_at_call 20; (with_reducible refine (impl_IsHeight.calls t461 _ _ A9.out).mono ?_); rintro e w' ⟨rfl, ⟨nd, rfl⟩⟩) | (go_at_call 21; (with_reducible refine (impl_CountBands.calls t461 t470 _ A11.out).mono ?_); rintro e w' ⟨rfl, ⟨nd, rfl⟩⟩; obtain ⟨Ao19, co19, eo19⟩ := Kd.N_slice HO465.out; subst eo19; obtain ⟨Ao20, co20, eo20⟩ := Kd.N_slice HO468.out; subst eo20) | (go_at_call 22; (with_reducible refine (impl_SameRows.calls k _ _ t462 _ _ t466 t471 _ ?side1 ?side2 ?side3 ?side4 A13.out).mono ?_); (case side1 => exact cS (Kd.N_reads' HO465.out).2.2); (case side2 => exact (Kd.N_reads' HO465.out).2.1); (case side3 => exact cS (Kd.N_reads' HO468.out).2.2); (case side4 => exact (Kd.N_reads' HO468.out).2.1); rintro e w' ⟨rfl, ⟨nd, rfl⟩⟩))
 go_ret
 exact ⟨eS, bS⟩) : p := h
theorem laws_FnBands.calls (k : Nat) (A0 : Option Addr) (c0 : Nat) (l0 : List Int) (r : Bool) (w : World) (hr0 : Kd.C (Kd.int .u8) w A0 l0.length l0) (hc0 : l0.length ≤ c0) (h : laws_FnBands.f k l0 = some r) (hT : r = true) :
  Calls Try.prog 3 #[.slice A0 l0.length c0] w fun e w' => e = .returned (.bool r) ∧ Below w.heap.size w w' := by
 have HR0 := Aside0.mk hr0
 have HC0 := Aside0.mk hc0
 clear hr0 hc0
 have HB := Aside0.mk (Below.refl w.heap.size w)
 have H : ((laws_big.f l0).bind fun t457 => (if t457 = true then (some true) else ((spec_DrawList.f k l0).bind fun t458 => ((spec_DrawHeight.f k l0).bind fun t461 => ((impl_PaintAll.f k t458).bind fun bt462 => ((impl_RenderBands.f k t458 t461).bind fun t466 => (if bt462.2 = true then ((impl_IsHeight.f t461).bind fun t469 => (if t469 = true then ((impl_CountBands.f t461).bind fun t470 => (if (wrap64 (t470 * t461)) = 32 then ((impl_SameRows.f k bt462.1 t466).bind fun t471 => (some t471)) else (some false))) else (some false))) else (some false)))))))) = some r := h
 clear h
 replace H := bN H
 obtain ⟨t457, A2, H⟩ := H
 by_cases c3 : t457 = true
 ·subst c3
  rw [if_pos rfl] at H
  obtain rfl := Option.some.inj H
  (try clear hT)
  exact laws_FnBands.lf0
 ·obtain rfl := Bool.eq_false_iff.mpr c3
  rw [if_neg nF] at H
  replace H := bN H
  obtain ⟨t458, A4, H⟩ := H
  replace H := bN H
  obtain ⟨t461, A5, H⟩ := H
  replace H := bN H
  obtain ⟨⟨t462, t463⟩, A6, H⟩ := H
  replace H := bN H
  obtain ⟨t466, A7, H⟩ := H
  by_cases c8 : t463 = true
  ·subst c8
   rw [if_pos rfl] at H
   replace H := bN H
   obtain ⟨t469, A9, H⟩ := H
   by_cases c10 : t469 = true
   ·subst c10
    rw [if_pos rfl] at H
    replace H := bN H
    obtain ⟨t470, A11, H⟩ := H
    by_cases c12 : (wrap64 (t470 * t461)) = 32
    ·rw [if_pos c12] at H
     have c12b0 : ((wrap64 (t470 * t461)) == 32) = true := beq_iff_eq.mpr c12
     have c12b1 : ((wrap64 (t470 * t461)) != 32) = false := bne_eq_false_iff_eq.mpr c12
     clear c12
     replace H := bN H
     obtain ⟨t471, A13, H⟩ := H
     obtain rfl := Option.some.inj H
     (try clear hT)
     exact laws_FnBands.lf0
    ·rw [if_neg c12] at H; exact absurd ((Option.some.inj H).trans hT) (by decide)
   ·obtain rfl := Bool.eq_false_iff.mpr c10
    rw [if_neg nF] at H
    exact absurd ((Option.some.inj H).trans hT) (by decide)
  ·obtain rfl := Bool.eq_false_iff.mpr c8
   rw [if_neg nF] at H
   exact absurd ((Option.some.inj H).trans hT) (by decide)

end Go.Proofs.Ytigodjcnkgebaaa.QFnBands
