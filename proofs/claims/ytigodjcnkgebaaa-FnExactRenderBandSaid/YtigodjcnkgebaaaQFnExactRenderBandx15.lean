-- Made out of the translation by a program of this session (a changed copy of the print). Not trusted: Lean checks it.
import Derived.Test.YtigodjcnkgebaaaQFnExactRenderBandx0
import Derived.Test.YtigodjcnkgebaaaQFnExactRenderBandx1
import Derived.Test.YtigodjcnkgebaaaQFnExactRenderBandx2
import Derived.Test.YtigodjcnkgebaaaQFnExactRenderBandx3
import Derived.Test.YtigodjcnkgebaaaQFnExactRenderBandx9
import Derived.Test.YtigodjcnkgebaaaQFnExactRenderBandx10
import Derived.Test.YtigodjcnkgebaaaQFnExactRenderBandx14
namespace Go.Proofs.Ytigodjcnkgebaaa.QFnExactRenderBand
open Go.RowKit Go.Proofs.YtigodjcnkgebaaaW.PrintWords Go.Proofs.YtigodjcnkgebaaaW.PrintLast Go.Proofs.YtigodjcnkgebaaaW.PrintMore
attribute [local go_sem] max2_int min2_int max_two min_two max_three min_three max_four min_four   -- for this text's walks alone
set_option linter.unusedVariables false
set_option linter.unusedSimpArgs false
set_option maxHeartbeats 8000000
set_option maxRecDepth 100000

/-! ### impl_RenderBand: function 60 -/
mutual
def impl_RenderBand.j0 : Nat → List (S45) → Int → Int → Bool → Option ((List (List Int)))
  | 0, _, _, _, _ => none
  | k + 1, x0, x1, x2, x20 => if x20 = true then (some ([] : List (List Int))) else ((impl_WhiteRows.f k x1).bind fun t452 => (impl_RenderBand.l0 k x1 x2 t452 x0 (x0.length : Int) 0))
def impl_RenderBand.l0 : Nat → Int → Int → List (List Int) → List (S45) → Int → Int → Option ((List (List Int)))
  | 0, _, _, _, _, _, _ => none
  | k + 1, x1, x2, x7, x23, x24, x25 => if x25 < x24 then (if 0 ≤ x25 then (if x25 < (x23.length : Int) then ((impl_ObjectOk.f k ((rd_T45 x23 x25).f0) ((rd_T45 x23 x25).f1) ((rd_T45 x23 x25).f2.f0) ((rd_T45 x23 x25).f2.f1) ((rd_T45 x23 x25).f2.f2) ((rd_T45 x23 x25).f2.f3)).bind fun t457 => (if t457 = true then ((impl_paint.f k x7 (wrap64 (x2 * x1)) ((rd_T45 x23 x25).f0) ((rd_T45 x23 x25).f1) ((rd_T45 x23 x25).f2.f0) ((rd_T45 x23 x25).f2.f1) ((rd_T45 x23 x25).f2.f2) ((rd_T45 x23 x25).f2.f3)).bind fun t458 => (impl_RenderBand.l0 k x1 x2 t458 x23 x24 (wrap64 (x25 + 1)))) else (impl_RenderBand.l0 k x1 x2 x7 x23 x24 (wrap64 (x25 + 1))))) else (none)) else (none)) else (some x7)
end
def impl_RenderBand.f (k : Nat) (l0 : List (S45)) (a1 : Int) (a2 : Int) : Option ((List (List Int))) := (impl_IsHeight.f a1).bind fun t449 => (if t449 = true then ((impl_CountBands.f a1).bind fun t450 => ((impl_within.f a2 0 (wrap64 (t450 - 1))).bind fun t451 => (impl_RenderBand.j0 k l0 a1 a2 (!t451)))) else (impl_RenderBand.j0 k l0 a1 a2 true))
theorem impl_RenderBand.calls (k : Nat) (A0 : Option Addr) (c0 : Nat) (l0 : List (S45)) (a1 : Int) (a2 : Int) (r : List (List Int)) (w : World) (hr0 : Kd.C k45 w A0 l0.length l0) (hc0 : l0.length ≤ c0) (h : impl_RenderBand.f k l0 a1 a2 = some r) :
    Calls Try.prog 60 #[.slice A0 l0.length c0, .int .i64 a1, .int .i64 a2] w fun e w' => ∃ v0_ : Value, e = .returned (v0_) ∧ Kd.S (Kd.slice 3 (Kd.int .i64)) 71 w' w.heap.size (fun _ => True) v0_ r ∧ Below w.heap.size w w' := by
  have hu45 := Try.underlying45
  have HR0 := Aside0.mk hr0
  have HC0 := Aside0.mk hc0
  clear hr0 hc0
  have HB := Aside0.mk (Below.refl w.heap.size w)
  have H : ((impl_IsHeight.f a1).bind fun t449 => (if t449 = true then ((impl_CountBands.f a1).bind fun t450 => ((impl_within.f a2 0 (wrap64 (t450 - 1))).bind fun t451 => (impl_RenderBand.j0 k l0 a1 a2 (!t451)))) else (impl_RenderBand.j0 k l0 a1 a2 true))) = some r := h
  clear h
  have HC4 := Aside0.mk H
  clear H
  go_enter Try.func60, Try.ntmps60
  go_upto_region 1 with (fail)
  go_cut [20] (fun v20 wc => ∃ (kq : Nat) (x20_3 : Bool), v20 = .bool x20_3 ∧ Aside0 (impl_RenderBand.j0 kq l0 a1 a2 x20_3 = some r) ∧ Aside0 (kq ≤ k) ∧ Aside0 (Below w.heap.size w wc))
  case first =>
    have H := HC4.out
    clear HC4
    replace H := bN H
    obtain ⟨t449, A5, H⟩ := H
    by_cases c6 : t449 = true
    · subst c6
      rw [if_pos rfl] at H
      replace H := bN H
      obtain ⟨t450, A7, H⟩ := H
      replace H := bN H
      obtain ⟨t451, A8, H⟩ := H
      have H' := Aside0.mk H
      clear H
      go_wp2_with (first | ((with_reducible refine gC 20 ?_); refine cL (some 11) Try.func20 #[.int .i64 a1] ?_; (with_reducible refine (impl_IsHeight.calls a1 _ _ A5.out).mono ?_); rintro e w' ⟨rfl, ⟨nd, rfl⟩⟩; refine ⟨_, rfl, ?_⟩) | (go_at_call 21; (with_reducible refine (impl_CountBands.calls a1 t450 _ A7.out).mono ?_); rintro e w' ⟨rfl, ⟨nd, rfl⟩⟩) | (go_at_call 126; (with_reducible refine (impl_within.calls a2 0 (wrap64 (t450 - 1)) t451 _ A8.out).mono ?_); rintro e w' ⟨rfl, ⟨nd, rfl⟩⟩))
      go_meet
      case rel => exact ⟨_, (!t451), (by first | rfl | (simp; done) | (simp [*]; done)), H', ⟨by first | omega | exact Nat.le_refl _⟩, ⟨bS⟩⟩
    · obtain rfl := Bool.eq_false_iff.mpr c6
      rw [if_neg nF] at H
      have H' := Aside0.mk H
      clear H
      go_wp2_with (first | ((with_reducible refine gC 20 ?_); refine cL (some 11) Try.func20 #[.int .i64 a1] ?_; (with_reducible refine (impl_IsHeight.calls a1 _ _ A5.out).mono ?_); rintro e w' ⟨rfl, ⟨nd, rfl⟩⟩; refine ⟨_, rfl, ?_⟩))
      go_meet
      case rel => exact ⟨_, (true), (by first | rfl | (simp; done) | (simp [*]; done)), H', ⟨by first | omega | exact Nat.le_refl _⟩, ⟨bS⟩⟩
  case rest =>
    clear HC4
    try clear c2
    try clear p2
    try clear c6
    try clear p6
    obtain ⟨kq, x20_3, rfl, HA, HJ3, HB⟩ := hcut
    cases kq with
    | zero => exact absurd HA.out (by simp [impl_RenderBand.j0])
    | succ kj3 =>
      have H := HA.out
      clear HA
      simp only [impl_RenderBand.j0] at H
      by_cases c9 : x20_3 = true
      · subst c9
        rw [if_pos rfl] at H
        obtain rfl := Option.some.inj H
        go_wp2
        go_ret
        exact ⟨_, eS, by first | exact Kd.S_nil _ _ _ _ _ | exact Kd.N_nil _ _ _ _ _ | exact Kd.V_nil _ _ _ _ _ | exact Kd.Q_nil _ _ _ _ _ | exact Kd.R_nil _ _ _ _ _, bS⟩
      · obtain rfl := Bool.eq_false_iff.mpr c9
        rw [if_neg nF] at H
        replace H := bN H
        obtain ⟨t452, A10, H⟩ := H
        have H' := Aside0.mk H
        clear H
        go_wp2_with (first | ((with_reducible refine gC 74 ?_); refine cL (some 22) Try.func74 #[.int .i64 a1] ?_; (with_reducible refine (impl_WhiteRows.calls kj3 a1 t452 _ A10.out).mono ?_); rintro e w11 ⟨v453, rfl, ho0, hb⟩; refine ⟨_, rfl, ?_⟩; have HO454 := Aside0.mk (Kd.S_lower ho0 (below_size bS)); replace HB := hB hb; (try clear hb); (try clear hb2); (try clear hk); (try clear hi); (try clear ho0)))
        go_loopg [25] kj3 (fun kq v25 w' => ∃ (x7_2 : List (List Int)) (x25_2 : Int), v25 = .int .i64 x25_2 ∧ Aside0 (impl_RenderBand.l0 kq a1 a2 x7_2 l0 (l0.length : Int) x25_2 = some r) ∧ Aside0 (kq ≤ kj3) ∧ Aside0 (Kd.S (Kd.slice 3 (Kd.int .i64)) 71 w' w.heap.size (fun _ => True) v453 x7_2) ∧ Aside0 (Below w.heap.size w w'))
        case atStart => exact ⟨(t452), (0), (by first | rfl | (simp; done) | (simp [*]; done)), H', ⟨Nat.le_refl _⟩, ⟨by (with_reducible repeat (first | apply Kd.S_alloc | apply Kd.S_drewN | apply Kd.S_drew)); exact HO454.out⟩, ⟨bS⟩⟩
        case round =>
          clear H'
          try clear c2
          try clear p2
          try clear c6
          try clear p6
          try clear c7
          try clear c9
          try clear p2
          try clear p6
          obtain ⟨x7_2, x25_2, rfl, HA, HK2, HO_7, HB⟩ := hrel
          cases gk with
          | zero => exact absurd HA.out (by simp [impl_RenderBand.l0])
          | succ k2 =>
            have H := HA.out
            clear HA
            simp only [impl_RenderBand.l0] at H
            by_cases c12 : x25_2 < (l0.length : Int)
            · rw [if_pos c12] at H
              have c12b0 : decide (x25_2 < (l0.length : Int)) = true := decide_eq_true c12
              clear c12
              by_cases c13 : 0 ≤ x25_2
              · rw [if_pos c13] at H
                have c13b0 : decide (0 ≤ x25_2) = true := decide_eq_true c13
                clear c13
                by_cases c14 : x25_2 < (l0.length : Int)
                · rw [if_pos c14] at H
                  have c14b0 : decide (x25_2 < (l0.length : Int)) = true := decide_eq_true c14
                  clear c14
                  replace H := bN H
                  obtain ⟨t457, A15, H⟩ := H
                  by_cases c16 : t457 = true
                  · subst c16
                    rw [if_pos rfl] at H
                    replace H := bN H
                    obtain ⟨t458, A17, H⟩ := H
                    have H' := Aside0.mk H
                    clear H
                    have p455 : 0 ≤ (x25_2 : Int) := of_decide_eq_true (by first | (with_reducible assumption) | assumption)
                    have q455 : x25_2 < (l0.length : Int) := of_decide_eq_true (by first | (with_reducible assumption) | assumption)
                    obtain ⟨ad455, A455_0, c455_0, e455, hx455_0, hx455_1, hx455_2, hx455_3, hx455_4, hx455_5, hl455_0, hi455_0⟩ := at_T45 HR0.out x25_2 p455 q455
                    cases e455
                    replace hx455_0 := (HB.out.cell (World.block_lt_of_cell? w _ hx455_0)).trans hx455_0
                    replace hx455_1 := (HB.out.cell (World.block_lt_of_cell? w _ hx455_1)).trans hx455_1
                    replace hx455_2 := (HB.out.cell (World.block_lt_of_cell? w _ hx455_2)).trans hx455_2
                    replace hx455_3 := (HB.out.cell (World.block_lt_of_cell? w _ hx455_3)).trans hx455_3
                    replace hx455_4 := (HB.out.cell (World.block_lt_of_cell? w _ hx455_4)).trans hx455_4
                    replace hx455_5 := (HB.out.cell (World.block_lt_of_cell? w _ hx455_5)).trans hx455_5
                    have HR455_0 := Aside0.mk hi455_0
                    have HC455_0 := Aside0.mk hl455_0
                    clear hi455_0 hl455_0
                    replace p455 := eq_true p455
                    replace q455 := eq_true q455
                    go_wp2_with (first | ((with_reducible refine gD 9 ?_); refine bxE #[.slice none 0 0, .int .i64 0, .int .i64 0, .int .i64 0, .int .i64 0, .int .i64 0] 45 ?_; intro gb456 hg w18 BK456 hb; have GW456 := gE hg; have GE456 := gE hg; replace HO_7 := Aside0.mk (Kd.S_below (by (with_reducible repeat (first | apply Kd.S_alloc | apply Kd.S_drewN | apply Kd.S_drew)); exact HO_7.out) hb); replace HB := hB hb; clear hb hg; have hz19 := cz6 BK456) | ((with_reducible refine gC 87 ?_); refine cL (some 30) Try.func87 #[.agg #[.slice A455_0 ((rd_T45 l0 x25_2).f0).length c455_0, .int .i64 ((rd_T45 l0 x25_2).f1), .int .i64 ((rd_T45 l0 x25_2).f2.f0), .int .i64 ((rd_T45 l0 x25_2).f2.f1), .int .i64 ((rd_T45 l0 x25_2).f2.f2), .int .i64 ((rd_T45 l0 x25_2).f2.f3)]] ?_; (with_reducible refine (impl_ObjectOk.calls k2 _ _ ((rd_T45 l0 x25_2).f0) ((rd_T45 l0 x25_2).f1) ((rd_T45 l0 x25_2).f2.f0) ((rd_T45 l0 x25_2).f2.f1) ((rd_T45 l0 x25_2).f2.f2) ((rd_T45 l0 x25_2).f2.f3) _ _ ?side1 ?side2 A15.out).mono ?_); (case side1 => exact Kd.C_below HR455_0.out bS); (case side2 => exact HC455_0.out); rintro e w20 ⟨rfl, hb⟩; refine ⟨_, rfl, ?_⟩; replace HO_7 := Aside0.mk (Kd.S_below (by (with_reducible repeat (first | apply Kd.S_alloc | apply Kd.S_drewN | apply Kd.S_drew)); exact (Kd.S_mono (Kd.S_far (p := ⟨gb456, 5, none⟩) (Kd.S_far (p := ⟨gb456, 4, none⟩) (Kd.S_far (p := ⟨gb456, 3, none⟩) (Kd.S_far (p := ⟨gb456, 2, none⟩) (Kd.S_far (p := ⟨gb456, 1, none⟩) (Kd.S_far (p := ⟨gb456, 0, none⟩) (Kd.S_types HO_7.out BK456.out (by decide)) (fun _ hk => hk.2) (.slice A455_0 ((rd_T45 l0 x25_2).f0).length c455_0)) (fun _ hk => hk.2) (.int .i64 ((rd_T45 l0 x25_2).f1))) (fun _ hk => hk.2) (.int .i64 ((rd_T45 l0 x25_2).f2.f0))) (fun _ hk => hk.2) (.int .i64 ((rd_T45 l0 x25_2).f2.f1))) (fun _ hk => hk.2) (.int .i64 ((rd_T45 l0 x25_2).f2.f2))) (fun _ hk => hk.2) (.int .i64 ((rd_T45 l0 x25_2).f2.f3))) (fun _ h_ => h_.1))) hb); replace BK456 := Aside0.mk (blk_below (g := gb456) (o := .cells #[.slice A455_0 ((rd_T45 l0 x25_2).f0).length c455_0, .int .i64 ((rd_T45 l0 x25_2).f1), .int .i64 ((rd_T45 l0 x25_2).f2.f0), .int .i64 ((rd_T45 l0 x25_2).f2.f1), .int .i64 ((rd_T45 l0 x25_2).f2.f2), .int .i64 ((rd_T45 l0 x25_2).f2.f3)] 45 (0, 0)) kS hb); replace HB := hB hb; (try clear hb); (try clear hb2); (try clear hk); (try clear hi); have hz21 := cz6 BK456; obtain ⟨Ao22, co22, eo22⟩ := Kd.S_slice HO_7.out; subst eo22) | ((with_reducible refine gC 75 ?_); refine cL (some 36) Try.func75 #[.slice Ao22 x7_2.length co22, .int .i64 (wrap64 (a2 * a1)), .agg #[.slice A455_0 ((rd_T45 l0 x25_2).f0).length c455_0, .int .i64 ((rd_T45 l0 x25_2).f1), .int .i64 ((rd_T45 l0 x25_2).f2.f0), .int .i64 ((rd_T45 l0 x25_2).f2.f1), .int .i64 ((rd_T45 l0 x25_2).f2.f2), .int .i64 ((rd_T45 l0 x25_2).f2.f3)]] ?_; (with_reducible refine (impl_paint.calls k2 (fun k_ => w.heap.size ≤ k_ ∧ ∃ q_, q_ ∈ 71 :: (Kd.slice 3 (Kd.int .i64)).E ∧ ∃ c_, w20.heap[k_]? = some (.cells c_ q_ (0, 0))) (.slice Ao22 x7_2.length co22) x7_2 (wrap64 (a2 * a1)) _ _ ((rd_T45 l0 x25_2).f0) ((rd_T45 l0 x25_2).f1) ((rd_T45 l0 x25_2).f2.f0) ((rd_T45 l0 x25_2).f2.f1) ((rd_T45 l0 x25_2).f2.f2) ((rd_T45 l0 x25_2).f2.f3) t458 w _ ?side1 ?side2 ?side3 ?side4 A17.out).mono ?_); (case side1 => repeat (first | (with_reducible first | exact HB.out | apply below_alloc | apply pw_below_drewN | apply below_drew1 | refine below_set ?_ GE456.out) | exact HB.out)); (case side2 => (with_reducible repeat (first | apply Kd.S_alloc | apply Kd.S_drewN | apply Kd.S_drew)); exact Kd.S_mono (Kd.S_bound HO_7.out) (fun k_ h_ => ⟨h_.2.1, h_.2.2.2⟩)); (case side3 => exact Kd.C_kept_came k171_heap HR455_0.out bS (fun k_ hs_ => (fun e_ => e_.1) hs_)); (case side4 => exact HC455_0.out); rintro e w23 ⟨rfl, hy0, hb, hkp⟩; refine ⟨_, rfl, ?_⟩; replace HO_7 := Aside0.mk (Kd.S_mono hy0 (fun _ _ => trivial)); replace BK456 := Aside0.mk (blk_kept kS hkp (fun hs_ => (fun e_ => typed_one (by exact BK456.out) e_.2 (by decide)) hs_)); replace HB := Aside0.mk (hb); (try clear hb); (try clear hkp); (try clear hy0)))
                    go_roundg k2
                    case measure => have := HJ3.out; have := HK2.out; omega
                    case rel => exact ⟨(t458), (wrap64 (x25_2 + 1)), (by first | rfl | (simp; done) | (simp [*]; done)), H', ⟨by have := HJ3.out; have := HK2.out; omega⟩, ⟨by (with_reducible repeat (first | apply Kd.S_alloc | apply Kd.S_drewN | apply Kd.S_drew)); exact HO_7.out⟩, ⟨bS⟩⟩
                  · obtain rfl := Bool.eq_false_iff.mpr c16
                    rw [if_neg nF] at H
                    have H' := Aside0.mk H
                    clear H
                    have p455 : 0 ≤ (x25_2 : Int) := of_decide_eq_true (by first | (with_reducible assumption) | assumption)
                    have q455 : x25_2 < (l0.length : Int) := of_decide_eq_true (by first | (with_reducible assumption) | assumption)
                    obtain ⟨ad455, A455_0, c455_0, e455, hx455_0, hx455_1, hx455_2, hx455_3, hx455_4, hx455_5, hl455_0, hi455_0⟩ := at_T45 HR0.out x25_2 p455 q455
                    cases e455
                    replace hx455_0 := (HB.out.cell (World.block_lt_of_cell? w _ hx455_0)).trans hx455_0
                    replace hx455_1 := (HB.out.cell (World.block_lt_of_cell? w _ hx455_1)).trans hx455_1
                    replace hx455_2 := (HB.out.cell (World.block_lt_of_cell? w _ hx455_2)).trans hx455_2
                    replace hx455_3 := (HB.out.cell (World.block_lt_of_cell? w _ hx455_3)).trans hx455_3
                    replace hx455_4 := (HB.out.cell (World.block_lt_of_cell? w _ hx455_4)).trans hx455_4
                    replace hx455_5 := (HB.out.cell (World.block_lt_of_cell? w _ hx455_5)).trans hx455_5
                    have HR455_0 := Aside0.mk hi455_0
                    have HC455_0 := Aside0.mk hl455_0
                    clear hi455_0 hl455_0
                    replace p455 := eq_true p455
                    replace q455 := eq_true q455
                    go_wp2_with (first | ((with_reducible refine gD 9 ?_); refine bxE #[.slice none 0 0, .int .i64 0, .int .i64 0, .int .i64 0, .int .i64 0, .int .i64 0] 45 ?_; intro gb456 hg w24 BK456 hb; have GW456 := gE hg; have GE456 := gE hg; replace HO_7 := Aside0.mk (Kd.S_below (by (with_reducible repeat (first | apply Kd.S_alloc | apply Kd.S_drewN | apply Kd.S_drew)); exact HO_7.out) hb); replace HB := hB hb; clear hb hg; have hz25 := cz6 BK456) | ((with_reducible refine gC 87 ?_); refine cL (some 30) Try.func87 #[.agg #[.slice A455_0 ((rd_T45 l0 x25_2).f0).length c455_0, .int .i64 ((rd_T45 l0 x25_2).f1), .int .i64 ((rd_T45 l0 x25_2).f2.f0), .int .i64 ((rd_T45 l0 x25_2).f2.f1), .int .i64 ((rd_T45 l0 x25_2).f2.f2), .int .i64 ((rd_T45 l0 x25_2).f2.f3)]] ?_; (with_reducible refine (impl_ObjectOk.calls k2 _ _ ((rd_T45 l0 x25_2).f0) ((rd_T45 l0 x25_2).f1) ((rd_T45 l0 x25_2).f2.f0) ((rd_T45 l0 x25_2).f2.f1) ((rd_T45 l0 x25_2).f2.f2) ((rd_T45 l0 x25_2).f2.f3) _ _ ?side1 ?side2 A15.out).mono ?_); (case side1 => exact Kd.C_below HR455_0.out bS); (case side2 => exact HC455_0.out); rintro e w26 ⟨rfl, hb⟩; refine ⟨_, rfl, ?_⟩; replace HO_7 := Aside0.mk (Kd.S_below (by (with_reducible repeat (first | apply Kd.S_alloc | apply Kd.S_drewN | apply Kd.S_drew)); exact (Kd.S_mono (Kd.S_far (p := ⟨gb456, 5, none⟩) (Kd.S_far (p := ⟨gb456, 4, none⟩) (Kd.S_far (p := ⟨gb456, 3, none⟩) (Kd.S_far (p := ⟨gb456, 2, none⟩) (Kd.S_far (p := ⟨gb456, 1, none⟩) (Kd.S_far (p := ⟨gb456, 0, none⟩) (Kd.S_types HO_7.out BK456.out (by decide)) (fun _ hk => hk.2) (.slice A455_0 ((rd_T45 l0 x25_2).f0).length c455_0)) (fun _ hk => hk.2) (.int .i64 ((rd_T45 l0 x25_2).f1))) (fun _ hk => hk.2) (.int .i64 ((rd_T45 l0 x25_2).f2.f0))) (fun _ hk => hk.2) (.int .i64 ((rd_T45 l0 x25_2).f2.f1))) (fun _ hk => hk.2) (.int .i64 ((rd_T45 l0 x25_2).f2.f2))) (fun _ hk => hk.2) (.int .i64 ((rd_T45 l0 x25_2).f2.f3))) (fun _ h_ => h_.1))) hb); replace BK456 := Aside0.mk (blk_below (g := gb456) (o := .cells #[.slice A455_0 ((rd_T45 l0 x25_2).f0).length c455_0, .int .i64 ((rd_T45 l0 x25_2).f1), .int .i64 ((rd_T45 l0 x25_2).f2.f0), .int .i64 ((rd_T45 l0 x25_2).f2.f1), .int .i64 ((rd_T45 l0 x25_2).f2.f2), .int .i64 ((rd_T45 l0 x25_2).f2.f3)] 45 (0, 0)) kS hb); replace HB := hB hb; (try clear hb); (try clear hb2); (try clear hk); (try clear hi)))
                    go_roundg k2
                    case measure => have := HJ3.out; have := HK2.out; omega
                    case rel => exact ⟨(x7_2), (wrap64 (x25_2 + 1)), (by first | rfl | (simp; done) | (simp [*]; done)), H', ⟨by have := HJ3.out; have := HK2.out; omega⟩, ⟨by (with_reducible repeat (first | apply Kd.S_alloc | apply Kd.S_drewN | apply Kd.S_drew)); exact HO_7.out⟩, ⟨bS⟩⟩
                · rw [if_neg c14] at H
                  exact absurd H (by simp)
              · rw [if_neg c13] at H
                exact absurd H (by simp)
            · rw [if_neg c12] at H
              have c12b0 : decide (x25_2 < (l0.length : Int)) = false := decide_eq_false c12
              clear c12
              obtain rfl := Option.some.inj H
              go_wp2
              go_ret
              exact ⟨_, eS, by (with_reducible repeat (first | apply Kd.S_alloc | apply Kd.S_drewN | apply Kd.S_drew)); exact HO_7.out, bS⟩

/-! ### laws_FnExactRenderBand: function 11 -/
def laws_FnExactRenderBand.f (k : Nat) (l0 : List (S38)) (a1 : Int) (a2 : Int) : Option (Bool) := (laws_szObjectS.f k l0 1048576).bind fun t459 => (if t459 < 0 then (some true) else ((laws_toObjectS.f k l0).bind fun t460 => ((spec_RenderBand.f k t460 a1 a2).bind fun t463 => ((laws_toObjectS.f k l0).bind fun t466 => ((impl_RenderBand.f k t466 a1 a2).bind fun t469 => ((laws_eqIntSS.f k t469 t463).bind fun t472 => (if t472 = true then ((laws_toObjectS.f k l0).bind fun t473 => ((laws_eqObjectS.f k t466 t473).bind fun t476 => (if t476 = true then ((laws_markObjectS.f k t466 1).bind fun bt477 => (if bt477.1 < 0 then (some false) else ((laws_eqIntSS.f k t469 t463).bind fun t479 => (if t479 = true then ((laws_markIntSS.f k t469 1).bind fun bt480 => ((laws_heldIntSS.f k bt480.2 1).bind fun t482 => (if t482 < 0 then (some false) else (if t482 = bt480.1 then ((laws_toObjectS.f k l0).bind fun t483 => ((impl_RenderBand.f k t483 a1 a2).bind fun t486 => ((laws_eqIntSS.f k t486 t463).bind fun t489 => (if t489 = true then ((laws_heldIntSS.f k bt480.2 1).bind fun t490 => (if t490 < 0 then (some false) else (if t490 = bt480.1 then (some true) else (some false)))) else (some false))))) else (some false))))) else (some false))))) else (some false)))) else (some false))))))))
theorem laws_FnExactRenderBand.lf0 {p : Prop} (h : p := by
  go_enter Try.func11, Try.ntmps11
  go_wp2_with (first | ((with_reducible refine gC 39 ?_); refine cL (some 17) Try.func39 #[.slice A0 l0.length c0, .int .i64 1048576] ?_; (with_reducible refine (laws_szObjectS.calls k _ _ l0 1048576 t459 _ ?side1 ?side2 A4.out).mono ?_); (case side1 => repeat (first | exact HR0.out | (with_reducible refine Kd.C_alloc ?_ _) | (with_reducible refine Kd.C_drewN ?_ _) | (with_reducible refine Kd.C_drew ?_))); (case side2 => exact HC0.out); rintro e w94 ⟨rfl, hb⟩; refine ⟨_, rfl, ?_⟩; replace HB := hB hb; (try clear hb); (try clear hb2); (try clear hk); (try clear hi)) | ((with_reducible refine gC 41 ?_); refine cL (some 21) Try.func41 #[.slice A0 l0.length c0] ?_; (with_reducible refine (laws_toObjectS.calls k _ _ l0 t460 _ ?side1 ?side2 A7.out).mono ?_); (case side1 => exact cS (Kd.C_below HR0.out HB.out)); (case side2 => exact HC0.out); rintro e w95 ⟨v461, rfl, ho0, hb⟩; refine ⟨_, rfl, ?_⟩; obtain ⟨b462, HZ462, hz462⟩ := S_born ho0; have HL462 := Aside0.mk (show w.heap.size ≤ b462 from by rw [HZ462.out]; exact (below_size bS)); have HO462 := Aside0.mk (hz462); replace HB := hB hb; (try clear hb); (try clear hb2); (try clear hk); (try clear hi); (try clear ho0); obtain ⟨Ao96, co96, eo96⟩ := Kd.S_slice HO462.out; subst eo96) | ((with_reducible refine gC 59 ?_); refine cL (some 24) Try.func59 #[.slice Ao96 t460.length co96, .int .i64 a1, .int .i64 a2] ?_; (with_reducible refine (spec_RenderBand.calls k _ _ t460 a1 a2 t463 _ ?side1 ?side2 A8.out).mono ?_); (case side1 => exact cS (Kd.S_reads' HO462.out).2.2); (case side2 => exact (Kd.S_reads' HO462.out).2.1); rintro e w97 ⟨v464, rfl, ho0, hb⟩; refine ⟨_, rfl, ?_⟩; obtain ⟨b465, HZ465, hz465⟩ := S_born ho0; have HL465 := Aside0.mk (show w.heap.size ≤ b465 from by rw [HZ465.out]; exact (below_size bS)); have HO465 := Aside0.mk (hz465); replace HO462 := Aside0.mk (S_oldB (by (with_reducible repeat (first | apply Kd.S_alloc | apply Kd.S_drewN | apply Kd.S_drew)); exact HO462.out) hb HZ465.out); replace HB := hB hb; (try clear hb); (try clear hb2); (try clear hk); (try clear hi); (try clear ho0)) | ((with_reducible refine gC 41 ?_); refine cL (some 26) Try.func41 #[.slice A0 l0.length c0] ?_; (with_reducible refine (laws_toObjectS.calls k _ _ l0 t466 _ ?side1 ?side2 A9.out).mono ?_); (case side1 => exact cS (Kd.C_below HR0.out HB.out)); (case side2 => exact HC0.out); rintro e w98 ⟨v467, rfl, ho0, hb⟩; refine ⟨_, rfl, ?_⟩; obtain ⟨b468, HZ468, hz468⟩ := S_born ho0; have HL468 := Aside0.mk (show w.heap.size ≤ b468 from by rw [HZ468.out]; exact (below_size bS)); have HO468 := Aside0.mk (hz468); replace HO462 := Aside0.mk (S_oldB (by (with_reducible repeat (first | apply Kd.S_alloc | apply Kd.S_drewN | apply Kd.S_drew)); exact HO462.out) hb HZ468.out); replace HO465 := Aside0.mk (S_oldB (by (with_reducible repeat (first | apply Kd.S_alloc | apply Kd.S_drewN | apply Kd.S_drew)); exact HO465.out) hb HZ468.out); replace HB := hB hb; (try clear hb); (try clear hb2); (try clear hk); (try clear hi); (try clear ho0); obtain ⟨Ao99, co99, eo99⟩ := Kd.S_slice HO468.out; subst eo99) | ((with_reducible refine gC 60 ?_); refine cL (some 30) Try.func60 #[.slice Ao99 t466.length co99, .int .i64 a1, .int .i64 a2] ?_; (with_reducible refine (impl_RenderBand.calls k _ _ t466 a1 a2 t469 _ ?side1 ?side2 A10.out).mono ?_); (case side1 => exact cS (Kd.S_reads' HO468.out).2.2); (case side2 => exact (Kd.S_reads' HO468.out).2.1); rintro e w100 ⟨v470, rfl, ho0, hb⟩; refine ⟨_, rfl, ?_⟩; obtain ⟨b471, HZ471, hz471⟩ := S_born ho0; have HL471 := Aside0.mk (show w.heap.size ≤ b471 from by rw [HZ471.out]; exact (below_size bS)); have HO471 := Aside0.mk (hz471); replace HO462 := Aside0.mk (S_oldB (by (with_reducible repeat (first | apply Kd.S_alloc | apply Kd.S_drewN | apply Kd.S_drew)); exact HO462.out) hb HZ471.out); replace HO465 := Aside0.mk (S_oldB (by (with_reducible repeat (first | apply Kd.S_alloc | apply Kd.S_drewN | apply Kd.S_drew)); exact HO465.out) hb HZ471.out); replace HO468 := Aside0.mk (S_oldB (by (with_reducible repeat (first | apply Kd.S_alloc | apply Kd.S_drewN | apply Kd.S_drew)); exact HO468.out) hb HZ471.out); replace HB := hB hb; (try clear hb); (try clear hb2); (try clear hk); (try clear hi); (try clear ho0); obtain ⟨Ao101, co101, eo101⟩ := Kd.S_slice HO471.out; subst eo101; obtain ⟨Ao102, co102, eo102⟩ := Kd.S_slice HO465.out; subst eo102) | ((with_reducible refine gC 54 ?_); refine cL (some 33) Try.func54 #[.slice Ao101 t469.length co101, .slice Ao102 t463.length co102] ?_; (with_reducible refine (laws_eqIntSS.calls k _ _ t469 _ _ t463 _ _ ?side1 ?side2 ?side3 ?side4 A11.out).mono ?_); (case side1 => exact cS (Kd.S_reads' HO471.out).2.2); (case side2 => exact (Kd.S_reads' HO471.out).2.1); (case side3 => exact cS (Kd.S_reads' HO465.out).2.2); (case side4 => exact (Kd.S_reads' HO465.out).2.1); rintro e w' ⟨rfl, ⟨nd, rfl⟩⟩; refine ⟨_, rfl, ?_⟩) | ((with_reducible refine gC 41 ?_); refine cL (some 37) Try.func41 #[.slice A0 l0.length c0] ?_; (with_reducible refine (laws_toObjectS.calls k _ _ l0 t473 _ ?side1 ?side2 A13.out).mono ?_); (case side1 => exact cS (Kd.C_below HR0.out bS)); (case side2 => exact HC0.out); rintro e w103 ⟨v474, rfl, ho0, hb⟩; refine ⟨_, rfl, ?_⟩; obtain ⟨b475, HZ475, hz475⟩ := S_born ho0; have HL475 := Aside0.mk (show w.heap.size ≤ b475 from by rw [HZ475.out]; exact (below_size bS)); have HO475 := Aside0.mk (hz475); replace HO462 := Aside0.mk (S_oldB (by (with_reducible repeat (first | apply Kd.S_alloc | apply Kd.S_drewN | apply Kd.S_drew)); exact HO462.out) hb HZ475.out); replace HO465 := Aside0.mk (S_oldB (by (with_reducible repeat (first | apply Kd.S_alloc | apply Kd.S_drewN | apply Kd.S_drew)); exact HO465.out) hb HZ475.out); replace HO468 := Aside0.mk (S_oldB (by (with_reducible repeat (first | apply Kd.S_alloc | apply Kd.S_drewN | apply Kd.S_drew)); exact HO468.out) hb HZ475.out); replace HO471 := Aside0.mk (S_oldB (by (with_reducible repeat (first | apply Kd.S_alloc | apply Kd.S_drewN | apply Kd.S_drew)); exact HO471.out) hb HZ475.out); replace HB := hB hb; (try clear hb); (try clear hb2); (try clear hk); (try clear hi); (try clear ho0); obtain ⟨Ao104, co104, eo104⟩ := Kd.S_slice HO475.out; subst eo104) | ((with_reducible refine gC 43 ?_); refine cL (some 38) Try.func43 #[.slice Ao99 t466.length co99, .slice Ao104 t473.length co104] ?_; (with_reducible refine (laws_eqObjectS.calls k _ _ t466 _ _ t473 _ _ ?side1 ?side2 ?side3 ?side4 A14.out).mono ?_); (case side1 => exact cS (Kd.S_reads' HO468.out).2.2); (case side2 => exact (Kd.S_reads' HO468.out).2.1); (case side3 => exact cS (Kd.S_reads' HO475.out).2.2); (case side4 => exact (Kd.S_reads' HO475.out).2.1); rintro e w105 ⟨rfl, hb⟩; refine ⟨_, rfl, ?_⟩; replace HO462 := Aside0.mk (Kd.S_below (by (with_reducible repeat (first | apply Kd.S_alloc | apply Kd.S_drewN | apply Kd.S_drew)); exact HO462.out) hb); replace HO465 := Aside0.mk (Kd.S_below (by (with_reducible repeat (first | apply Kd.S_alloc | apply Kd.S_drewN | apply Kd.S_drew)); exact HO465.out) hb); replace HO468 := Aside0.mk (Kd.S_below (by (with_reducible repeat (first | apply Kd.S_alloc | apply Kd.S_drewN | apply Kd.S_drew)); exact HO468.out) hb); replace HO471 := Aside0.mk (Kd.S_below (by (with_reducible repeat (first | apply Kd.S_alloc | apply Kd.S_drewN | apply Kd.S_drew)); exact HO471.out) hb); replace HO475 := Aside0.mk (Kd.S_below (by (with_reducible repeat (first | apply Kd.S_alloc | apply Kd.S_drewN | apply Kd.S_drew)); exact HO475.out) hb); replace HB := hB hb; (try clear hb); (try clear hb2); (try clear hk); (try clear hi)) | ((with_reducible refine gC 58 ?_); refine cL (some 42) Try.func58 #[.slice Ao99 t466.length co99, .int .i64 1] ?_; (with_reducible refine (laws_markObjectS.calls k (fun k_ => (w.heap.size ≤ k_ ∧ ∃ q_, q_ ∈ 45 :: k45.E ∧ ∃ c_, w105.heap[k_]? = some (.cells c_ q_ (0, 0))) ∧ b468 ≤ k_ ∧ k_ < b471 ∧ k_ < b475 ∧ True) (.slice Ao99 t466.length co99) t466 1 t477 t478 w _ ?side1 ?side2 A16.out).mono ?_); (case side1 => repeat (first | (with_reducible first | exact HB.out | apply below_alloc | apply pw_below_drewN | apply below_drew1) | exact HB.out)); (case side2 => (with_reducible repeat (first | apply Kd.S_alloc | apply Kd.S_drewN | apply Kd.S_drew)); exact Kd.S_lower (Kd.S_mono (Kd.S_bound HO468.out) (fun k_ h_ => ⟨⟨Nat.le_trans HL468.out h_.2.1, h_.2.2.2⟩, h_.2.1, h_.1.1.2, h_.1.2, trivial⟩)) HL468.out); rintro e w106 ⟨rfl, hy0, hb, hkp⟩; refine ⟨_, rfl, ?_⟩; replace HO462 := Aside0.mk (Kd.S_mono (ok' := fun k_ => k_ < b465 ∧ k_ < b468 ∧ k_ < b471 ∧ k_ < b475) (Kd.S_keptB ((S_not (fun k_ => (w.heap.size ≤ k_ ∧ ∃ q_, q_ ∈ 45 :: k45.E ∧ ∃ c_, w105.heap[k_]? = some (.cells c_ q_ (0, 0))) ∧ b468 ≤ k_ ∧ k_ < b471 ∧ k_ < b475 ∧ True) HO462.out (fun k_ h_ e_ => Nat.not_le.2 (h_.1.1.1.2) e_.2.1))) hkp (fun k_ hk_ hs_ => (hk_.2) hs_)) (fun k_ hk_ => ⟨hk_.1.1.1.1.1.2, hk_.1.1.1.1.2, hk_.1.1.1.2, hk_.1.1.2⟩)); replace HO465 := Aside0.mk (Kd.S_mono (ok' := fun k_ => k_ < b468 ∧ k_ < b471 ∧ k_ < b475) (Kd.S_keptB ((S_not (fun k_ => (w.heap.size ≤ k_ ∧ ∃ q_, q_ ∈ 45 :: k45.E ∧ ∃ c_, w105.heap[k_]? = some (.cells c_ q_ (0, 0))) ∧ b468 ≤ k_ ∧ k_ < b471 ∧ k_ < b475 ∧ True) HO465.out (fun k_ h_ e_ => Nat.not_le.2 (h_.1.1.1.2) e_.2.1))) hkp (fun k_ hk_ hs_ => (hk_.2) hs_)) (fun k_ hk_ => ⟨hk_.1.1.1.1.2, hk_.1.1.1.2, hk_.1.1.2⟩)); replace HO468 := Aside0.mk (Kd.S_mono (ok' := fun _ => True) hy0 (fun _ _ => trivial)); replace HO471 := Aside0.mk (Kd.S_mono (ok' := fun k_ => k_ < b475) (Kd.S_keptB ((S_not (fun k_ => (w.heap.size ≤ k_ ∧ ∃ q_, q_ ∈ 45 :: k45.E ∧ ∃ c_, w105.heap[k_]? = some (.cells c_ q_ (0, 0))) ∧ b468 ≤ k_ ∧ k_ < b471 ∧ k_ < b475 ∧ True) HO471.out (fun k_ h_ e_ => Nat.not_lt.2 h_.2.1 (e_.2.2.1)))) hkp (fun k_ hk_ hs_ => (hk_.2) hs_)) (fun k_ hk_ => hk_.1.1.2)); replace HO475 := Aside0.mk (Kd.S_mono (ok' := fun k_ => True) (Kd.S_keptB ((S_not (fun k_ => (w.heap.size ≤ k_ ∧ ∃ q_, q_ ∈ 45 :: k45.E ∧ ∃ c_, w105.heap[k_]? = some (.cells c_ q_ (0, 0))) ∧ b468 ≤ k_ ∧ k_ < b471 ∧ k_ < b475 ∧ True) HO475.out (fun k_ h_ e_ => Nat.not_lt.2 h_.2.1 (e_.2.2.2.1)))) hkp (fun k_ hk_ hs_ => (hk_.2) hs_)) (fun k_ hk_ => trivial)); replace HB := Aside0.mk (hb); (try clear hb); (try clear hkp); (try clear hy0)) | (go_at_call 54; (with_reducible refine (laws_eqIntSS.calls k _ _ t469 _ _ t463 _ _ ?side1 ?side2 ?side3 ?side4 A31.out).mono ?_); (case side1 => exact cS (Kd.S_reads' HO471.out).2.2); (case side2 => exact (Kd.S_reads' HO471.out).2.1); (case side3 => exact cS (Kd.S_reads' HO465.out).2.2); (case side4 => exact (Kd.S_reads' HO465.out).2.1); rintro e w' ⟨rfl, ⟨nd, rfl⟩⟩) | ((with_reducible refine gC 55 ?_); refine cL (some 53) Try.func55 #[.slice Ao101 t469.length co101, .int .i64 1] ?_; (with_reducible refine (laws_markIntSS.calls k (fun k_ => (w.heap.size ≤ k_ ∧ ∃ q_, q_ ∈ 71 :: (Kd.slice 3 (Kd.int .i64)).E ∧ ∃ c_, w106.heap[k_]? = some (.cells c_ q_ (0, 0))) ∧ b471 ≤ k_ ∧ k_ < b475 ∧ True) (.slice Ao101 t469.length co101) t469 1 t480 t481 w _ ?side1 ?side2 A33.out).mono ?_); (case side1 => repeat (first | (with_reducible first | exact HB.out | apply below_alloc | apply pw_below_drewN | apply below_drew1) | exact HB.out)); (case side2 => (with_reducible repeat (first | apply Kd.S_alloc | apply Kd.S_drewN | apply Kd.S_drew)); exact Kd.S_lower (Kd.S_mono (Kd.S_bound HO471.out) (fun k_ h_ => ⟨⟨Nat.le_trans HL471.out h_.2.1, h_.2.2.2⟩, h_.2.1, h_.1, trivial⟩)) HL471.out); rintro e w107 ⟨rfl, hy0, hb, hkp⟩; refine ⟨_, rfl, ?_⟩; replace HO462 := Aside0.mk (Kd.S_mono (ok' := fun k_ => k_ < b465 ∧ k_ < b468 ∧ k_ < b471 ∧ k_ < b475) (Kd.S_keptB ((S_not (fun k_ => (w.heap.size ≤ k_ ∧ ∃ q_, q_ ∈ 71 :: (Kd.slice 3 (Kd.int .i64)).E ∧ ∃ c_, w106.heap[k_]? = some (.cells c_ q_ (0, 0))) ∧ b471 ≤ k_ ∧ k_ < b475 ∧ True) HO462.out (fun k_ h_ e_ => Nat.not_le.2 (h_.1.2.2.1) e_.2.1))) hkp (fun k_ hk_ hs_ => (hk_.2) hs_)) (fun k_ hk_ => ⟨hk_.1.1.1, hk_.1.1.2.1, hk_.1.1.2.2.1, hk_.1.1.2.2.2⟩)); replace HO465 := Aside0.mk (Kd.S_mono (ok' := fun k_ => k_ < b468 ∧ k_ < b471 ∧ k_ < b475) (Kd.S_keptB ((S_not (fun k_ => (w.heap.size ≤ k_ ∧ ∃ q_, q_ ∈ 71 :: (Kd.slice 3 (Kd.int .i64)).E ∧ ∃ c_, w106.heap[k_]? = some (.cells c_ q_ (0, 0))) ∧ b471 ≤ k_ ∧ k_ < b475 ∧ True) HO465.out (fun k_ h_ e_ => Nat.not_le.2 (h_.1.2.1) e_.2.1))) hkp (fun k_ hk_ hs_ => (hk_.2) hs_)) (fun k_ hk_ => ⟨hk_.1.1.1, hk_.1.1.2.1, hk_.1.1.2.2⟩)); replace HO471 := Aside0.mk (Kd.S_mono (ok' := fun _ => True) hy0 (fun _ _ => trivial)); replace HO475 := Aside0.mk (Kd.S_mono (ok' := fun k_ => True) (Kd.S_keptB ((S_not (fun k_ => (w.heap.size ≤ k_ ∧ ∃ q_, q_ ∈ 71 :: (Kd.slice 3 (Kd.int .i64)).E ∧ ∃ c_, w106.heap[k_]? = some (.cells c_ q_ (0, 0))) ∧ b471 ≤ k_ ∧ k_ < b475 ∧ True) HO475.out (fun k_ h_ e_ => Nat.not_lt.2 h_.2.1 (e_.2.2.1)))) hkp (fun k_ hk_ hs_ => (hk_.2) hs_)) (fun k_ hk_ => trivial)); replace HB := Aside0.mk (hb); clear HO468; (try clear hb); (try clear hkp); (try clear hy0)) | ((with_reducible refine gC 56 ?_); refine goesL_ (some 56) rfl rfl Try.func56 (by kernel_rfl) rfl #[.slice Ao101 t481.length co101, .int .i64 1] rfl (by (try simp only [List.map_toArray, List.map_cons, List.map_nil]); first | done | (rw [show t481.length = t469.length from (Kd.S_reads' HO471.out).1.symm] <;> rfl) | rfl | (simp only [List.length_drop, List.length_take]; rfl)) ?_; (with_reducible refine (laws_heldIntSS.calls k _ _ t481 1 t482 _ ?side1 ?side2 A34.out).mono ?_); (case side1 => exact cS (Kd.S_reads' HO471.out).2.2); (case side2 => rw [show t481.length = t469.length from (Kd.S_reads' HO471.out).1.symm]; exact (Kd.S_reads' HO471.out).2.1); rintro e w' ⟨rfl, ⟨nd, rfl⟩⟩; refine ⟨_, rfl, ?_⟩) | ((with_reducible refine gC 41 ?_); refine cL (some 63) Try.func41 #[.slice A0 l0.length c0] ?_; (with_reducible refine (laws_toObjectS.calls k _ _ l0 t483 _ ?side1 ?side2 A51.out).mono ?_); (case side1 => exact cS (Kd.C_below HR0.out bS)); (case side2 => exact HC0.out); rintro e w108 ⟨v484, rfl, ho0, hb⟩; refine ⟨_, rfl, ?_⟩; obtain ⟨b485, HZ485, hz485⟩ := S_born ho0; have HL485 := Aside0.mk (show w.heap.size ≤ b485 from by rw [HZ485.out]; exact (below_size bS)); have HO485 := Aside0.mk (hz485); replace HO462 := Aside0.mk (S_oldB (by (with_reducible repeat (first | apply Kd.S_alloc | apply Kd.S_drewN | apply Kd.S_drew)); exact HO462.out) hb HZ485.out); replace HO465 := Aside0.mk (S_oldB (by (with_reducible repeat (first | apply Kd.S_alloc | apply Kd.S_drewN | apply Kd.S_drew)); exact HO465.out) hb HZ485.out); replace HO471 := Aside0.mk (S_oldB (by (with_reducible repeat (first | apply Kd.S_alloc | apply Kd.S_drewN | apply Kd.S_drew)); exact HO471.out) hb HZ485.out); replace HO475 := Aside0.mk (S_oldB (by (with_reducible repeat (first | apply Kd.S_alloc | apply Kd.S_drewN | apply Kd.S_drew)); exact HO475.out) hb HZ485.out); replace HB := hB hb; (try clear hb); (try clear hb2); (try clear hk); (try clear hi); (try clear ho0); obtain ⟨Ao109, co109, eo109⟩ := Kd.S_slice HO485.out; subst eo109) | ((with_reducible refine gC 60 ?_); refine cL (some 66) Try.func60 #[.slice Ao109 t483.length co109, .int .i64 a1, .int .i64 a2] ?_; (with_reducible refine (impl_RenderBand.calls k _ _ t483 a1 a2 t486 _ ?side1 ?side2 A52.out).mono ?_); (case side1 => exact cS (Kd.S_reads' HO485.out).2.2); (case side2 => exact (Kd.S_reads' HO485.out).2.1); rintro e w110 ⟨v487, rfl, ho0, hb⟩; refine ⟨_, rfl, ?_⟩; obtain ⟨b488, HZ488, hz488⟩ := S_born ho0; have HL488 := Aside0.mk (show w.heap.size ≤ b488 from by rw [HZ488.out]; exact (below_size bS)); have HO488 := Aside0.mk (hz488); replace HO462 := Aside0.mk (S_oldB (by (with_reducible repeat (first | apply Kd.S_alloc | apply Kd.S_drewN | apply Kd.S_drew)); exact HO462.out) hb HZ488.out); replace HO465 := Aside0.mk (S_oldB (by (with_reducible repeat (first | apply Kd.S_alloc | apply Kd.S_drewN | apply Kd.S_drew)); exact HO465.out) hb HZ488.out); replace HO471 := Aside0.mk (S_oldB (by (with_reducible repeat (first | apply Kd.S_alloc | apply Kd.S_drewN | apply Kd.S_drew)); exact HO471.out) hb HZ488.out); replace HO475 := Aside0.mk (S_oldB (by (with_reducible repeat (first | apply Kd.S_alloc | apply Kd.S_drewN | apply Kd.S_drew)); exact HO475.out) hb HZ488.out); replace HO485 := Aside0.mk (S_oldB (by (with_reducible repeat (first | apply Kd.S_alloc | apply Kd.S_drewN | apply Kd.S_drew)); exact HO485.out) hb HZ488.out); replace HB := hB hb; (try clear hb); (try clear hb2); (try clear hk); (try clear hi); (try clear ho0); obtain ⟨Ao111, co111, eo111⟩ := Kd.S_slice HO488.out; subst eo111) | ((with_reducible refine gC 54 ?_); refine cL (some 69) Try.func54 #[.slice Ao111 t486.length co111, .slice Ao102 t463.length co102] ?_; (with_reducible refine (laws_eqIntSS.calls k _ _ t486 _ _ t463 _ _ ?side1 ?side2 ?side3 ?side4 A53.out).mono ?_); (case side1 => exact cS (Kd.S_reads' HO488.out).2.2); (case side2 => exact (Kd.S_reads' HO488.out).2.1); (case side3 => exact cS (Kd.S_reads' HO465.out).2.2); (case side4 => exact (Kd.S_reads' HO465.out).2.1); rintro e w' ⟨rfl, ⟨nd, rfl⟩⟩; refine ⟨_, rfl, ?_⟩) | ((with_reducible refine gC 56 ?_); refine goesL_ (some 73) rfl rfl Try.func56 (by kernel_rfl) rfl #[.slice Ao101 t481.length co101, .int .i64 1] rfl (by (try simp only [List.map_toArray, List.map_cons, List.map_nil]); first | done | (rw [show t481.length = t469.length from (Kd.S_reads' HO471.out).1.symm] <;> rfl) | rfl | (simp only [List.length_drop, List.length_take]; rfl)) ?_; (with_reducible refine (laws_heldIntSS.calls k _ _ t481 1 t490 _ ?side1 ?side2 A55.out).mono ?_); (case side1 => exact cS (Kd.S_reads' HO471.out).2.2); (case side2 => rw [show t481.length = t469.length from (Kd.S_reads' HO471.out).1.symm]; exact (Kd.S_reads' HO471.out).2.1); rintro e w' ⟨rfl, ⟨nd, rfl⟩⟩; refine ⟨_, rfl, ?_⟩))
  go_ret
  exact ⟨eS, bS⟩) : p := h
theorem laws_FnExactRenderBand.calls (k : Nat) (A0 : Option Addr) (c0 : Nat) (l0 : List (S38)) (a1 : Int) (a2 : Int) (r : Bool) (w : World) (hr0 : Kd.C k38 w A0 l0.length l0) (hc0 : l0.length ≤ c0) (h : laws_FnExactRenderBand.f k l0 a1 a2 = some r) :
    Calls Try.prog 11 #[.slice A0 l0.length c0, .int .i64 a1, .int .i64 a2] w fun e w' => e = .returned (.bool r) ∧ Below w.heap.size w w' := by
  have HR0 := Aside0.mk hr0
  have HC0 := Aside0.mk hc0
  clear hr0 hc0
  have HB := Aside0.mk (Below.refl w.heap.size w)
  have H : ((laws_szObjectS.f k l0 1048576).bind fun t459 => (if t459 < 0 then (some true) else ((laws_toObjectS.f k l0).bind fun t460 => ((spec_RenderBand.f k t460 a1 a2).bind fun t463 => ((laws_toObjectS.f k l0).bind fun t466 => ((impl_RenderBand.f k t466 a1 a2).bind fun t469 => ((laws_eqIntSS.f k t469 t463).bind fun t472 => (if t472 = true then ((laws_toObjectS.f k l0).bind fun t473 => ((laws_eqObjectS.f k t466 t473).bind fun t476 => (if t476 = true then ((laws_markObjectS.f k t466 1).bind fun bt477 => (if bt477.1 < 0 then (some false) else ((laws_eqIntSS.f k t469 t463).bind fun t479 => (if t479 = true then ((laws_markIntSS.f k t469 1).bind fun bt480 => ((laws_heldIntSS.f k bt480.2 1).bind fun t482 => (if t482 < 0 then (some false) else (if t482 = bt480.1 then ((laws_toObjectS.f k l0).bind fun t483 => ((impl_RenderBand.f k t483 a1 a2).bind fun t486 => ((laws_eqIntSS.f k t486 t463).bind fun t489 => (if t489 = true then ((laws_heldIntSS.f k bt480.2 1).bind fun t490 => (if t490 < 0 then (some false) else (if t490 = bt480.1 then (some true) else (some false)))) else (some false))))) else (some false))))) else (some false))))) else (some false)))) else (some false))))))))) = some r := h
  clear h
  replace H := bN H
  obtain ⟨t459, A4, H⟩ := H
  by_cases c5 : t459 < 0
  · rw [if_pos c5] at H
    have c5b0 : decide (t459 < 0) = true := decide_eq_true c5
    clear c5
    obtain rfl := Option.some.inj H
    exact laws_FnExactRenderBand.lf0
  · rw [if_neg c5] at H
    have c5b0 : decide (t459 < 0) = false := decide_eq_false c5
    clear c5
    replace H := bN H
    obtain ⟨t460, A7, H⟩ := H
    replace H := bN H
    obtain ⟨t463, A8, H⟩ := H
    replace H := bN H
    obtain ⟨t466, A9, H⟩ := H
    replace H := bN H
    obtain ⟨t469, A10, H⟩ := H
    replace H := bN H
    obtain ⟨t472, A11, H⟩ := H
    by_cases c12 : t472 = true
    · subst c12
      rw [if_pos rfl] at H
      replace H := bN H
      obtain ⟨t473, A13, H⟩ := H
      replace H := bN H
      obtain ⟨t476, A14, H⟩ := H
      by_cases c15 : t476 = true
      · subst c15
        rw [if_pos rfl] at H
        replace H := bN H
        obtain ⟨⟨t477, t478⟩, A16, H⟩ := H
        by_cases c17 : t477 < 0
        · rw [if_pos c17] at H
          have c17b0 : decide (t477 < 0) = true := decide_eq_true c17
          clear c17
          obtain rfl := Option.some.inj H
          exact laws_FnExactRenderBand.lf0
        · rw [if_neg c17] at H
          have c17b0 : decide (t477 < 0) = false := decide_eq_false c17
          clear c17
          replace H := bN H
          obtain ⟨t479, A31, H⟩ := H
          by_cases c32 : t479 = true
          · subst c32
            rw [if_pos rfl] at H
            replace H := bN H
            obtain ⟨⟨t480, t481⟩, A33, H⟩ := H
            replace H := bN H
            obtain ⟨t482, A34, H⟩ := H
            by_cases c35 : t482 < 0
            · rw [if_pos c35] at H
              have c35b0 : decide (t482 < 0) = true := decide_eq_true c35
              clear c35
              obtain rfl := Option.some.inj H
              exact laws_FnExactRenderBand.lf0
            · rw [if_neg c35] at H
              have c35b0 : decide (t482 < 0) = false := decide_eq_false c35
              clear c35
              by_cases c50 : t482 = t480
              · rw [if_pos c50] at H
                have c50b0 : (t482 == t480) = true := beq_iff_eq.mpr c50
                have c50b1 : (t482 != t480) = false := bne_eq_false_iff_eq.mpr c50
                clear c50
                replace H := bN H
                obtain ⟨t483, A51, H⟩ := H
                replace H := bN H
                obtain ⟨t486, A52, H⟩ := H
                replace H := bN H
                obtain ⟨t489, A53, H⟩ := H
                by_cases c54 : t489 = true
                · subst c54
                  rw [if_pos rfl] at H
                  replace H := bN H
                  obtain ⟨t490, A55, H⟩ := H
                  by_cases c56 : t490 < 0
                  · rw [if_pos c56] at H
                    have c56b0 : decide (t490 < 0) = true := decide_eq_true c56
                    clear c56
                    obtain rfl := Option.some.inj H
                    exact laws_FnExactRenderBand.lf0
                  · rw [if_neg c56] at H
                    have c56b0 : decide (t490 < 0) = false := decide_eq_false c56
                    clear c56
                    by_cases c75 : t490 = t480
                    · rw [if_pos c75] at H
                      have c75b0 : (t490 == t480) = true := beq_iff_eq.mpr c75
                      have c75b1 : (t490 != t480) = false := bne_eq_false_iff_eq.mpr c75
                      clear c75
                      obtain rfl := Option.some.inj H
                      exact laws_FnExactRenderBand.lf0
                    · rw [if_neg c75] at H
                      have c75b0 : (t490 == t480) = false := beq_eq_false_iff_ne.mpr c75
                      have c75b1 : (t490 != t480) = true := bne_iff_ne.mpr c75
                      obtain rfl := Option.some.inj H
                      exact laws_FnExactRenderBand.lf0
                · obtain rfl := Bool.eq_false_iff.mpr c54
                  rw [if_neg nF] at H
                  obtain rfl := Option.some.inj H
                  exact laws_FnExactRenderBand.lf0
              · rw [if_neg c50] at H
                have c50b0 : (t482 == t480) = false := beq_eq_false_iff_ne.mpr c50
                have c50b1 : (t482 != t480) = true := bne_iff_ne.mpr c50
                obtain rfl := Option.some.inj H
                exact laws_FnExactRenderBand.lf0
          · obtain rfl := Bool.eq_false_iff.mpr c32
            rw [if_neg nF] at H
            obtain rfl := Option.some.inj H
            exact laws_FnExactRenderBand.lf0
      · obtain rfl := Bool.eq_false_iff.mpr c15
        rw [if_neg nF] at H
        obtain rfl := Option.some.inj H
        exact laws_FnExactRenderBand.lf0
    · obtain rfl := Bool.eq_false_iff.mpr c12
      rw [if_neg nF] at H
      obtain rfl := Option.some.inj H
      exact laws_FnExactRenderBand.lf0

end Go.Proofs.Ytigodjcnkgebaaa.QFnExactRenderBand
