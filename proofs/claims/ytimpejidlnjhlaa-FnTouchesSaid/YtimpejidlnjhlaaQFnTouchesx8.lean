-- Made out of the translation by a program of this session (a changed copy of the print). Not trusted: Lean checks it.
import Derived.Test.YtimpejidlnjhlaaQFnTouchesx0
import Derived.Test.YtimpejidlnjhlaaQFnTouchesx1
import Derived.Test.YtimpejidlnjhlaaQFnTouchesx2
import Derived.Test.YtimpejidlnjhlaaQFnTouchesx4
import Derived.Test.YtimpejidlnjhlaaQFnTouchesx5
import Derived.Test.YtimpejidlnjhlaaQFnTouchesx7
namespace Go.Proofs.Ytimpejidlnjhlaa.QFnTouches
open Go.RowKit Go.Proofs.YtimpejidlnjhlaaW.PrintWords Go.Proofs.YtimpejidlnjhlaaW.PrintLast Go.Proofs.YtimpejidlnjhlaaW.PrintMore
attribute [local go_sem] max2_int min2_int max_two min_two max_three min_three max_four min_four   -- for this text's walks alone
set_option linter.unusedVariables false
set_option linter.unusedSimpArgs false
set_option maxHeartbeats 8000000
set_option maxRecDepth 100000

/-! ### impl_RenderBand: function 56 -/
mutual
def impl_RenderBand.j0 : Nat → List (S41) → Int → Int → Bool → Option ((List (List Int)))
 | 0, _, _, _, _ => none
 | k + 1, x0, x1, x2, x20 => if x20 = true then (some ([] : List (List Int))) else ((impl_WhiteRows.f k x1).bind fun t391 => (impl_RenderBand.l0 k x1 x2 t391 x0 (x0.length : Int) 0))
def impl_RenderBand.l0 : Nat → Int → Int → List (List Int) → List (S41) → Int → Int → Option ((List (List Int)))
 | 0, _, _, _, _, _, _ => none
 | k + 1, x1, x2, x7, x23, x24, x25 => if x25 < x24 then (if 0 ≤ x25 then (if x25 < (x23.length : Int) then ((impl_ObjectOk.f k ((rd_T41 x23 x25).f0) ((rd_T41 x23 x25).f1) ((rd_T41 x23 x25).f2.f0) ((rd_T41 x23 x25).f2.f1) ((rd_T41 x23 x25).f2.f2) ((rd_T41 x23 x25).f2.f3)).bind fun t396 => (if t396 = true then ((impl_paint.f k x7 (wrap64 (x2 * x1)) ((rd_T41 x23 x25).f0) ((rd_T41 x23 x25).f1) ((rd_T41 x23 x25).f2.f0) ((rd_T41 x23 x25).f2.f1) ((rd_T41 x23 x25).f2.f2) ((rd_T41 x23 x25).f2.f3)).bind fun t397 => (impl_RenderBand.l0 k x1 x2 t397 x23 x24 (wrap64 (x25 + 1)))) else (impl_RenderBand.l0 k x1 x2 x7 x23 x24 (wrap64 (x25 + 1))))) else (none)) else (none)) else (some x7)
end
def impl_RenderBand.f (k : Nat) (l0 : List (S41)) (a1 : Int) (a2 : Int) : Option ((List (List Int))) := (impl_IsHeight.f a1).bind fun t388 => (if t388 = true then ((impl_CountBands.f a1).bind fun t389 => ((impl_within.f a2 0 (wrap64 (t389 - 1))).bind fun t390 => (impl_RenderBand.j0 k l0 a1 a2 (!t390)))) else (impl_RenderBand.j0 k l0 a1 a2 true))
theorem impl_RenderBand.calls (k : Nat) (A0 : Option Addr) (c0 : Nat) (l0 : List (S41)) (a1 : Int) (a2 : Int) (r : List (List Int)) (w : World) (hr0 : Kd.C k41 w A0 l0.length l0) (hc0 : l0.length ≤ c0) (h : impl_RenderBand.f k l0 a1 a2 = some r) :
  Calls Try.prog 56 #[.slice A0 l0.length c0, .int .i64 a1, .int .i64 a2] w fun e w' => ∃ v0_ : Value, e = .returned (v0_) ∧ Kd.S (Kd.slice 3 (Kd.int .i64)) 22 w' w.heap.size (fun _ => True) v0_ r ∧ Below w.heap.size w w' := by
 have hu41 := Try.underlying41
 have HR0 := Aside0.mk hr0
 have HC0 := Aside0.mk hc0
 clear hr0 hc0
 have HB := Aside0.mk (Below.refl w.heap.size w)
 have H : ((impl_IsHeight.f a1).bind fun t388 => (if t388 = true then ((impl_CountBands.f a1).bind fun t389 => ((impl_within.f a2 0 (wrap64 (t389 - 1))).bind fun t390 => (impl_RenderBand.j0 k l0 a1 a2 (!t390)))) else (impl_RenderBand.j0 k l0 a1 a2 true))) = some r := h
 clear h
 have HC4 := Aside0.mk H
 clear H
 go_enter Try.func56, Try.ntmps56
 go_upto_region 1 with (fail)
 go_cut [20] (fun v20 wc => ∃ (kq : Nat) (x20_3 : Bool), v20 = .bool x20_3 ∧ Aside0 (impl_RenderBand.j0 kq l0 a1 a2 x20_3 = some r) ∧ Aside0 (kq ≤ k) ∧ Aside0 (Below w.heap.size w wc))
 case first =>
  have H := HC4.out
  clear HC4
  replace H := bN H
  obtain ⟨t388, A5, H⟩ := H
  by_cases c6 : t388 = true
  ·subst c6
   rw [if_pos rfl] at H
   replace H := bN H
   obtain ⟨t389, A7, H⟩ := H
   replace H := bN H
   obtain ⟨t390, A8, H⟩ := H
   have H' := Aside0.mk H
   clear H
   go_wp2_with (first | ((with_reducible refine gC 97 ?_); refine cL (some 11) Try.func97 #[.int .i64 a1] ?_; (with_reducible refine (impl_IsHeight.calls a1 _ _ A5.out).mono ?_); rintro e w' ⟨rfl, ⟨nd, rfl⟩⟩; refine ⟨_, rfl, ?_⟩) | (go_at_call 29; (with_reducible refine (impl_CountBands.calls a1 t389 _ A7.out).mono ?_); rintro e w' ⟨rfl, ⟨nd, rfl⟩⟩) | (go_at_call 101; (with_reducible refine (impl_within.calls a2 0 (wrap64 (t389 - 1)) t390 _ A8.out).mono ?_); rintro e w' ⟨rfl, ⟨nd, rfl⟩⟩))
   go_meet
   case rel => exact ⟨_, (!t390), fS, H', ⟨by first | omega | exact Nat.le_refl _⟩, ⟨bS⟩⟩
  ·obtain rfl := Bool.eq_false_iff.mpr c6
   rw [if_neg nF] at H
   have H' := Aside0.mk H
   clear H
   go_wp2_with (first | ((with_reducible refine gC 97 ?_); refine cL (some 11) Try.func97 #[.int .i64 a1] ?_; (with_reducible refine (impl_IsHeight.calls a1 _ _ A5.out).mono ?_); rintro e w' ⟨rfl, ⟨nd, rfl⟩⟩; refine ⟨_, rfl, ?_⟩))
   go_meet
   case rel => exact ⟨_, (true), fS, H', ⟨by first | omega | exact Nat.le_refl _⟩, ⟨bS⟩⟩
 case rest =>
  clear HC4
  try clear p2
  try clear c5
  try clear c6
  try clear p6
  obtain ⟨kq, x20_3, rfl, HA, HJ3, HB⟩ := hcut
  cases kq with
  | zero => exact absurd HA.out (by simp [impl_RenderBand.j0])
  | succ kj3 =>
   have H := HA.out
   clear HA
   simp only [impl_RenderBand.j0] at H
   by_cases c9 : x20_3 = true
   ·subst c9
    rw [if_pos rfl] at H
    obtain rfl := Option.some.inj H
    go_wp2
    go_ret
    exact ⟨_, eS, by first | exact Kd.S_nil _ _ _ _ _ | exact Kd.N_nil _ _ _ _ _ | exact Kd.V_nil _ _ _ _ _ | exact Kd.Q_nil _ _ _ _ _ | exact Kd.R_nil _ _ _ _ _, bS⟩
   ·obtain rfl := Bool.eq_false_iff.mpr c9
    rw [if_neg nF] at H
    replace H := bN H
    obtain ⟨t391, A10, H⟩ := H
    have H' := Aside0.mk H
    clear H
    go_wp2_with (first | ((with_reducible refine gC 53 ?_); refine cL (some 22) Try.func53 #[.int .i64 a1] ?_; (with_reducible refine (impl_WhiteRows.calls kj3 a1 t391 _ A10.out).mono ?_); rintro e w11 ⟨v392, rfl, ho0, hb⟩; refine ⟨_, rfl, ?_⟩; have HO393 := Aside0.mk (Kd.S_lower ho0 (below_size bS)); replace HB := hB hb; (try clear hb); (try clear hb2); (try clear hk); (try clear hi); (try clear ho0)))
    go_loopg [25] kj3 (fun kq v25 w' => ∃ (x7_2 : List (List Int)) (x25_2 : Int), v25 = .int .i64 x25_2 ∧ Aside0 (impl_RenderBand.l0 kq a1 a2 x7_2 l0 (l0.length : Int) x25_2 = some r) ∧ Aside0 (kq ≤ kj3) ∧ Aside0 (Kd.S (Kd.slice 3 (Kd.int .i64)) 22 w' w.heap.size (fun _ => True) v392 x7_2) ∧ Aside0 (Below w.heap.size w w'))
    case atStart => exact ⟨(t391), (0), fS, H', ⟨Nat.le_refl _⟩, ⟨sS HO393⟩, ⟨bS⟩⟩
    case round =>
     clear H'
     try clear p2
     try clear c5
     try clear c6
     try clear p6
     try clear c9
     try clear p2
     try clear p6
     obtain ⟨x7_2, x25_2, rfl, HA, HK2, HO_7, HB⟩ := hrel
     cases gk with
     | zero => exact absurd HA.out (by simp [impl_RenderBand.l0])
     | succ k2 =>
      have H := HA.out
      clear HA
      simp only [impl_RenderBand.l0] at H
      rcases iD H with ⟨c12b0, H⟩ | ⟨c12b0, H⟩
      ·obtain ⟨c13b0, H⟩ := iT H
       obtain ⟨c14b0, H⟩ := iT H
       replace H := bN H
       obtain ⟨t396, A15, H⟩ := H
       by_cases c16 : t396 = true
       ·subst c16
        rw [if_pos rfl] at H
        replace H := bN H
        obtain ⟨t397, A17, H⟩ := H
        have H' := Aside0.mk H
        clear H
        have p394 : 0 ≤ (x25_2 : Int) := dA
        have q394 : x25_2 < (l0.length : Int) := dA
        obtain ⟨ad394, A394_0, c394_0, e394, hx394_0, hx394_1, hx394_2, hx394_3, hx394_4, hx394_5, hl394_0, hi394_0⟩ := at_T41 HR0.out x25_2 p394 q394
        cases e394
        replace hx394_0 := cB HB hx394_0
        replace hx394_1 := cB HB hx394_1
        replace hx394_2 := cB HB hx394_2
        replace hx394_3 := cB HB hx394_3
        replace hx394_4 := cB HB hx394_4
        replace hx394_5 := cB HB hx394_5
        have HR394_0 := Aside0.mk hi394_0
        have HC394_0 := Aside0.mk hl394_0
        clear hi394_0 hl394_0
        replace p394 := eq_true p394
        replace q394 := eq_true q394
        go_wp2_with (first | ((with_reducible refine gD 9 ?_); refine bxE #[.slice none 0 0, .int .i64 0, .int .i64 0, .int .i64 0, .int .i64 0, .int .i64 0] 41 ?_; intro gb395 hg w18 BK395 hb; have GW395 := gE hg; have GE395 := gE hg; replace HO_7 := sB HO_7 hb; replace HB := hB hb; clear hb hg; have hz19 := cz6 BK395) | ((with_reducible refine gC 107 ?_); refine cL (some 30) Try.func107 #[.agg #[.slice A394_0 ((rd_T41 l0 x25_2).f0).length c394_0, .int .i64 ((rd_T41 l0 x25_2).f1), .int .i64 ((rd_T41 l0 x25_2).f2.f0), .int .i64 ((rd_T41 l0 x25_2).f2.f1), .int .i64 ((rd_T41 l0 x25_2).f2.f2), .int .i64 ((rd_T41 l0 x25_2).f2.f3)]] ?_; (with_reducible refine (impl_ObjectOk.calls k2 _ _ ((rd_T41 l0 x25_2).f0) ((rd_T41 l0 x25_2).f1) ((rd_T41 l0 x25_2).f2.f0) ((rd_T41 l0 x25_2).f2.f1) ((rd_T41 l0 x25_2).f2.f2) ((rd_T41 l0 x25_2).f2.f3) _ _ (Kd.C_below HR394_0.out bS) HC394_0.out A15.out).mono ?_); rintro e w20 ⟨rfl, hb⟩; refine ⟨_, rfl, ?_⟩; replace HO_7 := Aside0.mk (Kd.S_below (by exact sT (Kd.S_mono (Kd.S_far (p := ⟨gb395, 5, none⟩) (Kd.S_far (p := ⟨gb395, 4, none⟩) (Kd.S_far (p := ⟨gb395, 3, none⟩) (Kd.S_far (p := ⟨gb395, 2, none⟩) (Kd.S_far (p := ⟨gb395, 1, none⟩) (Kd.S_far (p := ⟨gb395, 0, none⟩) (Kd.S_types HO_7.out BK395.out (by decide)) (fun _ hk => hk.2) (.slice A394_0 ((rd_T41 l0 x25_2).f0).length c394_0)) (fun _ hk => hk.2) (.int .i64 ((rd_T41 l0 x25_2).f1))) (fun _ hk => hk.2) (.int .i64 ((rd_T41 l0 x25_2).f2.f0))) (fun _ hk => hk.2) (.int .i64 ((rd_T41 l0 x25_2).f2.f1))) (fun _ hk => hk.2) (.int .i64 ((rd_T41 l0 x25_2).f2.f2))) (fun _ hk => hk.2) (.int .i64 ((rd_T41 l0 x25_2).f2.f3))) (fun _ h_ => h_.1))) hb); replace BK395 := Aside0.mk (blk_below (g := gb395) (o := .cells #[.slice A394_0 ((rd_T41 l0 x25_2).f0).length c394_0, .int .i64 ((rd_T41 l0 x25_2).f1), .int .i64 ((rd_T41 l0 x25_2).f2.f0), .int .i64 ((rd_T41 l0 x25_2).f2.f1), .int .i64 ((rd_T41 l0 x25_2).f2.f2), .int .i64 ((rd_T41 l0 x25_2).f2.f3)] 41 (0, 0)) kS hb); replace HB := hB hb; (try clear hb); (try clear hb2); (try clear hk); (try clear hi); have hz21 := cz6 BK395; obtain ⟨Ao22, co22, eo22⟩ := Kd.S_slice HO_7.out; subst eo22) | ((with_reducible refine gC 108 ?_); refine cL (some 36) Try.func108 #[.slice Ao22 x7_2.length co22, .int .i64 (wrap64 (a2 * a1)), .agg #[.slice A394_0 ((rd_T41 l0 x25_2).f0).length c394_0, .int .i64 ((rd_T41 l0 x25_2).f1), .int .i64 ((rd_T41 l0 x25_2).f2.f0), .int .i64 ((rd_T41 l0 x25_2).f2.f1), .int .i64 ((rd_T41 l0 x25_2).f2.f2), .int .i64 ((rd_T41 l0 x25_2).f2.f3)]] ?_; (with_reducible refine (impl_paint.calls k2 (fun k_ => w.heap.size ≤ k_ ∧ ∃ q_, q_ ∈ 22 :: (Kd.slice 3 (Kd.int .i64)).E ∧ ∃ c_, w20.heap[k_]? = some (.cells c_ q_ (0, 0))) (.slice Ao22 x7_2.length co22) x7_2 (wrap64 (a2 * a1)) _ _ ((rd_T41 l0 x25_2).f0) ((rd_T41 l0 x25_2).f1) ((rd_T41 l0 x25_2).f2.f0) ((rd_T41 l0 x25_2).f2.f1) ((rd_T41 l0 x25_2).f2.f2) ((rd_T41 l0 x25_2).f2.f3) t397 w _ ?side1 ?side2 ?side3 ?side4 A17.out).mono ?_); (case side1 => repeat (first | (with_reducible first | exact HB.out | apply below_alloc | apply pw_below_drewN | apply below_drew1 | refine below_set ?_ GE395.out) | exact HB.out)); (case side2 => (with_reducible repeat (first | apply Kd.S_alloc | apply Kd.S_drewN | apply Kd.S_drew)); exact Kd.S_mono (Kd.S_bound HO_7.out) (fun k_ h_ => ⟨h_.2.1, h_.2.2.2⟩)); (case side3 => exact Kd.C_kept_came k166_heap HR394_0.out bS (fun k_ hs_ => (fun e_ => e_.1) hs_)); (case side4 => exact HC394_0.out); rintro e w23 ⟨rfl, hy0, hb, hkp⟩; refine ⟨_, rfl, ?_⟩; replace HO_7 := Aside0.mk (Kd.S_mono hy0 (fun _ _ => trivial)); replace BK395 := Aside0.mk (blk_kept (g := gb395) kS hkp (fun hs_ => (fun e_ => typed_one (by exact BK395.out) e_.2 (by decide)) hs_)); replace HB := Aside0.mk (hb); (try clear hb); (try clear hkp); (try clear hy0)))
        go_roundg k2
        case measure => have := HJ3.out; have := HK2.out; omega
        case rel => exact ⟨(t397), (wrap64 (x25_2 + 1)), fS, H', ⟨by have := HJ3.out; have := HK2.out; omega⟩, ⟨sS HO_7⟩, ⟨bS⟩⟩
       ·obtain rfl := Bool.eq_false_iff.mpr c16
        rw [if_neg nF] at H
        have H' := Aside0.mk H
        clear H
        have p394 : 0 ≤ (x25_2 : Int) := dA
        have q394 : x25_2 < (l0.length : Int) := dA
        obtain ⟨ad394, A394_0, c394_0, e394, hx394_0, hx394_1, hx394_2, hx394_3, hx394_4, hx394_5, hl394_0, hi394_0⟩ := at_T41 HR0.out x25_2 p394 q394
        cases e394
        replace hx394_0 := cB HB hx394_0
        replace hx394_1 := cB HB hx394_1
        replace hx394_2 := cB HB hx394_2
        replace hx394_3 := cB HB hx394_3
        replace hx394_4 := cB HB hx394_4
        replace hx394_5 := cB HB hx394_5
        have HR394_0 := Aside0.mk hi394_0
        have HC394_0 := Aside0.mk hl394_0
        clear hi394_0 hl394_0
        replace p394 := eq_true p394
        replace q394 := eq_true q394
        go_wp2_with (first | ((with_reducible refine gD 9 ?_); refine bxE #[.slice none 0 0, .int .i64 0, .int .i64 0, .int .i64 0, .int .i64 0, .int .i64 0] 41 ?_; intro gb395 hg w24 BK395 hb; have GW395 := gE hg; have GE395 := gE hg; replace HO_7 := sB HO_7 hb; replace HB := hB hb; clear hb hg; have hz25 := cz6 BK395) | ((with_reducible refine gC 107 ?_); refine cL (some 30) Try.func107 #[.agg #[.slice A394_0 ((rd_T41 l0 x25_2).f0).length c394_0, .int .i64 ((rd_T41 l0 x25_2).f1), .int .i64 ((rd_T41 l0 x25_2).f2.f0), .int .i64 ((rd_T41 l0 x25_2).f2.f1), .int .i64 ((rd_T41 l0 x25_2).f2.f2), .int .i64 ((rd_T41 l0 x25_2).f2.f3)]] ?_; (with_reducible refine (impl_ObjectOk.calls k2 _ _ ((rd_T41 l0 x25_2).f0) ((rd_T41 l0 x25_2).f1) ((rd_T41 l0 x25_2).f2.f0) ((rd_T41 l0 x25_2).f2.f1) ((rd_T41 l0 x25_2).f2.f2) ((rd_T41 l0 x25_2).f2.f3) _ _ (Kd.C_below HR394_0.out bS) HC394_0.out A15.out).mono ?_); rintro e w26 ⟨rfl, hb⟩; refine ⟨_, rfl, ?_⟩; replace HO_7 := Aside0.mk (Kd.S_below (by exact sT (Kd.S_mono (Kd.S_far (p := ⟨gb395, 5, none⟩) (Kd.S_far (p := ⟨gb395, 4, none⟩) (Kd.S_far (p := ⟨gb395, 3, none⟩) (Kd.S_far (p := ⟨gb395, 2, none⟩) (Kd.S_far (p := ⟨gb395, 1, none⟩) (Kd.S_far (p := ⟨gb395, 0, none⟩) (Kd.S_types HO_7.out BK395.out (by decide)) (fun _ hk => hk.2) (.slice A394_0 ((rd_T41 l0 x25_2).f0).length c394_0)) (fun _ hk => hk.2) (.int .i64 ((rd_T41 l0 x25_2).f1))) (fun _ hk => hk.2) (.int .i64 ((rd_T41 l0 x25_2).f2.f0))) (fun _ hk => hk.2) (.int .i64 ((rd_T41 l0 x25_2).f2.f1))) (fun _ hk => hk.2) (.int .i64 ((rd_T41 l0 x25_2).f2.f2))) (fun _ hk => hk.2) (.int .i64 ((rd_T41 l0 x25_2).f2.f3))) (fun _ h_ => h_.1))) hb); replace BK395 := Aside0.mk (blk_below (g := gb395) (o := .cells #[.slice A394_0 ((rd_T41 l0 x25_2).f0).length c394_0, .int .i64 ((rd_T41 l0 x25_2).f1), .int .i64 ((rd_T41 l0 x25_2).f2.f0), .int .i64 ((rd_T41 l0 x25_2).f2.f1), .int .i64 ((rd_T41 l0 x25_2).f2.f2), .int .i64 ((rd_T41 l0 x25_2).f2.f3)] 41 (0, 0)) kS hb); replace HB := hB hb; (try clear hb); (try clear hb2); (try clear hk); (try clear hi)))
        go_roundg k2
        case measure => have := HJ3.out; have := HK2.out; omega
        case rel => exact ⟨(x7_2), (wrap64 (x25_2 + 1)), fS, H', ⟨by have := HJ3.out; have := HK2.out; omega⟩, ⟨sS HO_7⟩, ⟨bS⟩⟩
      ·obtain rfl := Option.some.inj H
       go_wp2
       go_ret
       exact ⟨_, eS, sS HO_7, bS⟩

/-! ### impl_Point: function 161 -/
def impl_Point.f (l0 : List (S166)) : Option ((List (S166))) := (some (([] : List (S166)) : List (S166))).bind fun y398 => (if y398.length + l0.length < 8796093022208 then (some (y398 ++ l0)) else (none))
theorem impl_Point.calls (A0 : Option Addr) (c0 : Nat) (l0 : List (S166)) (r : List (S166)) (w : World) (hr0 : Kd.C k166 w A0 l0.length l0) (hc0 : l0.length ≤ c0) (h : impl_Point.f l0 = some r) :
  Calls Try.prog 161 #[.slice A0 l0.length c0] w fun e w' => ∃ v0_ : Value, e = .returned (v0_) ∧ Kd.R k166 166 w' w.heap.size (fun _ => True) v0_ r ∧ Below w.heap.size w w' := by
 obtain _ | A0 := A0
 ·have hl0 : l0 = [] := by
   rcases Nat.eq_zero_or_pos l0.length with h0 | h0
   ·exact List.eq_nil_of_length_eq_zero h0
   ·obtain ⟨ad, e, _⟩ := hr0.2.2 h0
    cases e
  subst hl0
  have hr_ : r = [] := by
   have h_ := h
   simp [impl_Point.f] at h_
   first | exact h_ | exact h_.symm
  subst hr_
  have he_ : ∀ w : World, (binOp .eql 37 (.slice none 0 c0) (.slice none 0 0)).run Try.prog w = .ok (.bool true) w := fun _ => rfl
  go_enter Try.func161, Try.ntmps161
  go_wp2
  go_ret
  exact ⟨_, rfl, Kd.R_nil _ _ _ _ _, Below.refl _ _⟩
 have he_ : ∀ w : World, (binOp .eql 37 (.slice (some A0) l0.length c0) (.slice none 0 0)).run Try.prog w = .ok (.bool false) w := fun _ => rfl
 have HR0 := Aside0.mk hr0
 have HC0 := Aside0.mk hc0
 clear hr0 hc0
 have HB := Aside0.mk (Below.refl w.heap.size w)
 have H : ((some (([] : List (S166)) : List (S166))).bind fun y398 => (if y398.length + l0.length < 8796093022208 then (some (y398 ++ l0)) else (none))) = some r := h
 clear h
 obtain ⟨y398, hy398⟩ : ∃ y_ : List (S166), y_ = (([] : List (S166))) := ⟨_, rfl⟩
 replace H : (if y398.length + l0.length < 8796093022208 then (some (y398 ++ l0)) else (none)) = some r := by first | (rw [hy398]; with_reducible exact H) | (have H2_ := (Option.bind_some _ _).symm.trans H; rw [hy398]; with_reducible exact H2_) | (have H2_ := (Option.bind_some _ _).symm.trans H; with_reducible exact H2_) | with_reducible exact H | (rw [hy398]; exact H) | exact H
 have Ny398 := Aside0.mk hy398
 clear hy398
 by_cases c2 : y398.length + l0.length < 8796093022208
 ·rw [if_pos c2] at H
  have LMc2 := Aside0.mk c2
  clear c2
  obtain ⟨y401, hy401⟩ : ∃ y_ : List (S166), y_ = (y398 ++ l0) := ⟨_, rfl⟩
  replace H : (some y401) = some r := by first | (rw [hy401]; with_reducible exact H) | (have H2_ := (Option.bind_some _ _).symm.trans H; rw [hy401]; with_reducible exact H2_) | (have H2_ := (Option.bind_some _ _).symm.trans H; with_reducible exact H2_) | with_reducible exact H | (rw [hy401]; exact H) | exact H
  have Ny401 := Aside0.mk hy401
  clear hy401
  obtain rfl := Option.some.inj H
  go_enter Try.func161, Try.ntmps161
  go_wp2_with (first | ((with_reducible refine gate_dst (N := 5) rfl ?_); refine Kd.R_lit k166 _ 166 ?hg (N := 5) ?hd (xs := ([] : List (S166))) (inner := []) (ok := fun _ => True) (okp := fun _ => True) ?hr ?hp (fun _ hk => hk) trivial (Below.refl _ _) (Nat.le_refl _) (by simp) ?_; (case hd => rfl); (case hg => rfl); (case hr => first | (go_simp; done) | (go_simp; rfl)); (case hp => exact (Reps.none _ _)); intro v399 w3 ho4 hb hg_ hnew_; clear hg_ hnew_; (first | rw [← Ny398.out] at ho4 | (simp only [Int.reduceToNat] at ho4; rw [← Ny398.out] at ho4)); have HO400 := Aside0.mk (Kd.R_lower ho4 (below_size bS)); replace HB := hB hb; clear hb ho4) | ((with_reducible refine gate_builtin (b := .append) (xs := #[.tmp 5, .tmp 6]) rfl ?_); at_builtin; refine Kd.R_append_rows k166 (w0 := w) w.heap.size rfl (.tmp 5) (.tmp 6) 37 166 (.agg #[(.int .i64 0), (.int .i64 0)]) 16 rfl Try.underlying37 info166 rfl (by decide) (by omega) v399 y398 l0 _ _ _ (fun _ => True) (fun _ => False) rfl rfl ?aO ?aR (fun _ _ h => h) (fun _ h => h.elim) ?aF ?aB ?aS ?aL ?_; (case aR => exact cS (Kd.C_below HR0.out HB.out)); (case aB => exact bS); (case aF => exact (fun _ _ => trivial)); (case aO => exact (rS HO400)); (case aS => exact (below_size bS)); (case aL => have := LMc2.out; omega); intro v402 w5 ho hb hg hat; rw [← Ny401.out] at ho; have HO403 := Aside0.mk (ho); replace HB := Aside0.mk (hb); clear HO400; clear ho hb hg hat))
  go_ret
  exact ⟨_, eS, rS HO403, bS⟩
 ·rw [if_neg c2] at H
  exact absurd H (by simp)

/-! ### impl_copyObject: function 117 -/
def impl_copyObject.f (l0_0 : List (S166)) (a0_1 : Int) (a0_2 : Int) (a0_3 : Int) (a0_4 : Int) (a0_5 : Int) : Option ((List (S166)) × Int × Int × Int × Int × Int) := (impl_Point.f l0_0).bind fun t406 => (some (t406, a0_1, a0_2, a0_3, a0_4, a0_5))
theorem impl_copyObject.calls (A0_0 : Option Addr) (c0_0 : Nat) (l0_0 : List (S166)) (a0_1 : Int) (a0_2 : Int) (a0_3 : Int) (a0_4 : Int) (a0_5 : Int) (r1 : List (S166)) (r2 : Int) (r3 : Int) (r4 : Int) (r5 : Int) (r6 : Int) (w : World) (hr0_0 : Kd.C k166 w A0_0 l0_0.length l0_0) (hc0_0 : l0_0.length ≤ c0_0) (h : impl_copyObject.f l0_0 a0_1 a0_2 a0_3 a0_4 a0_5 = some (r1, r2, r3, r4, r5, r6)) :
  Calls Try.prog 117 #[.agg #[.slice A0_0 l0_0.length c0_0, .int .i64 a0_1, .int .i64 a0_2, .int .i64 a0_3, .int .i64 a0_4, .int .i64 a0_5]] w fun e w' => ∃ v0_ : Value, e = .returned (.agg #[v0_, .int .i64 r2, .int .i64 r3, .int .i64 r4, .int .i64 r5, .int .i64 r6]) ∧ Kd.R k166 166 w' w.heap.size (fun _ => True) v0_ r1 ∧ Below w.heap.size w w' := by
 have hu41 := Try.underlying41
 have HR0_0 := Aside0.mk hr0_0
 have HC0_0 := Aside0.mk hc0_0
 clear hr0_0 hc0_0
 have HB := Aside0.mk (Below.refl w.heap.size w)
 have H : ((impl_Point.f l0_0).bind fun t406 => (some (t406, a0_1, a0_2, a0_3, a0_4, a0_5))) = some (r1, r2, r3, r4, r5, r6) := h
 clear h
 replace H := bN H
 obtain ⟨t406, A2, H⟩ := H
 obtain ⟨rfl, rfl, rfl, rfl, rfl, rfl⟩ := sI6 H
 go_enter Try.func117, Try.ntmps117
 go_wp2_with (first | ((with_reducible refine gD 1 ?_); refine bxE #[.slice A0_0 l0_0.length c0_0, .int .i64 a0_1, .int .i64 a0_2, .int .i64 a0_3, .int .i64 a0_4, .int .i64 a0_5] 41 ?_; intro gb404 hg w3 BK404 hb; have GW404 := gE hg; have GE404 := gE hg; replace HB := hB hb; clear hb hg) | ((with_reducible refine gD 2 ?_); refine bxE #[.slice none 0 0, .int .i64 0, .int .i64 0, .int .i64 0, .int .i64 0, .int .i64 0] 41 ?_; intro gb405 hg w4 BK405 hb; have GW405 := gE hg; have GE405 := gE hg; have NB404_405 := nL (g := gb404) hg; have NB405_404 := nG (g := gb404) hg; replace BK404 := kB (g := gb404) hb; replace HB := hB hb; clear hb hg; have hnb5 := NB404_405.out; have hnc5 := NB405_404.out; have hz6 := cz6 BK404) | ((with_reducible refine gC 161 ?_); refine cL (some 5) Try.func161 #[.slice A0_0 l0_0.length c0_0] ?_; (with_reducible refine (impl_Point.calls _ _ l0_0 t406 _ (cS (Kd.C_below HR0_0.out HB.out)) HC0_0.out A2.out).mono ?_); rintro e w7 ⟨v407, rfl, ho0, hb⟩; refine ⟨_, rfl, ?_⟩; have HO408 := Aside0.mk (Kd.R_lower ho0 (below_size bS)); replace BK404 := kB (g := gb404) hb; replace BK405 := kB (g := gb405) hb; replace HB := hB hb; (try clear hb); (try clear hb2); (try clear hk); (try clear hi); (try clear ho0); obtain ⟨Ao8, co8, eo8⟩ := Kd.R_slice HO408.out; subst eo8; have hz9 := cz6 BK404; have hz10 := cz6 BK405))
 refine bodyPost_ret (results_cell_row rfl _ _ gb405 41 #[.slice Ao8 t406.length co8, .int .i64 a0_1, .int .i64 a0_2, .int .i64 a0_3, .int .i64 a0_4, .int .i64 a0_5] (0, 0) _ rfl kS Try.underlying41 rfl (by kernel_rfl)) rfl ?_
 exact ⟨_, eS, by exact rT (Kd.R_mono (Kd.R_far (p := ⟨gb405, 5, none⟩) (Kd.R_far (p := ⟨gb405, 4, none⟩) (Kd.R_far (p := ⟨gb405, 3, none⟩) (Kd.R_far (p := ⟨gb405, 2, none⟩) (Kd.R_far (p := ⟨gb405, 1, none⟩) (Kd.R_far (p := ⟨gb405, 0, none⟩) (Kd.R_far (p := ⟨gb404, 0, none⟩) (Kd.R_types (Kd.R_types HO408.out BK404.out (by decide)) BK405.out (by decide)) (fun _ hk => hk.1.2) (.slice Ao8 t406.length co8)) (fun _ hk => hk.2) (.slice Ao8 t406.length co8)) (fun _ hk => hk.2) (.int .i64 a0_1)) (fun _ hk => hk.2) (.int .i64 a0_2)) (fun _ hk => hk.2) (.int .i64 a0_3)) (fun _ hk => hk.2) (.int .i64 a0_4)) (fun _ hk => hk.2) (.int .i64 a0_5)) (fun _ hk => trivial)), bS⟩

/-! ### impl_ObjectsOfBand: function 57 -/
def impl_ObjectsOfBand.l0 : Nat → Int → Int → List (S41) → List (S41) → Int → Int → Option ((List (S41)))
 | 0, _, _, _, _, _, _ => none
 | k + 1, x1, x2, x7, x10, x11, x12 => if x12 < x11 then (if 0 ≤ x12 then (if x12 < (x10.length : Int) then ((impl_ObjectOk.f k ((rd_T41 x10 x12).f0) ((rd_T41 x10 x12).f1) ((rd_T41 x10 x12).f2.f0) ((rd_T41 x10 x12).f2.f1) ((rd_T41 x10 x12).f2.f2) ((rd_T41 x10 x12).f2.f3)).bind fun t411 => (if t411 = true then ((impl_TouchesBand.f k ((rd_T41 x10 x12).f0) ((rd_T41 x10 x12).f1) ((rd_T41 x10 x12).f2.f0) ((rd_T41 x10 x12).f2.f1) ((rd_T41 x10 x12).f2.f2) ((rd_T41 x10 x12).f2.f3) x1 x2).bind fun t412 => (if t412 = true then ((impl_copyObject.f ((rd_T41 x10 x12).f0) ((rd_T41 x10 x12).f1) ((rd_T41 x10 x12).f2.f0) ((rd_T41 x10 x12).f2.f1) ((rd_T41 x10 x12).f2.f2) ((rd_T41 x10 x12).f2.f3)).bind fun bt413 => (if x7.length < 2199023255552 then (impl_ObjectsOfBand.l0 k x1 x2 (x7 ++ [(⟨bt413.1, bt413.2.1, (⟨bt413.2.2.1, bt413.2.2.2.1, bt413.2.2.2.2.1, bt413.2.2.2.2.2⟩ : S39)⟩ : S41)]) x10 x11 (wrap64 (x12 + 1))) else (none))) else (impl_ObjectsOfBand.l0 k x1 x2 x7 x10 x11 (wrap64 (x12 + 1))))) else (impl_ObjectsOfBand.l0 k x1 x2 x7 x10 x11 (wrap64 (x12 + 1))))) else (none)) else (none)) else (some x7)
def impl_ObjectsOfBand.f (k : Nat) (l0 : List (S41)) (a1 : Int) (a2 : Int) : Option ((List (S41))) := impl_ObjectsOfBand.l0 k a1 a2 ([] : List (S41)) l0 (l0.length : Int) 0
theorem impl_ObjectsOfBand.calls (k : Nat) (A0 : Option Addr) (c0 : Nat) (l0 : List (S41)) (a1 : Int) (a2 : Int) (r : List (S41)) (w : World) (hr0 : Kd.C k41 w A0 l0.length l0) (hc0 : l0.length ≤ c0) (h : impl_ObjectsOfBand.f k l0 a1 a2 = some r) :
  Calls Try.prog 57 #[.slice A0 l0.length c0, .int .i64 a1, .int .i64 a2] w fun e w' => ∃ v0_ : Value, e = .returned (v0_) ∧ Kd.S k41 41 w' w.heap.size (fun _ => True) v0_ r ∧ Below w.heap.size w w' := by
 have hu41 := Try.underlying41
 have HR0 := Aside0.mk hr0
 have HC0 := Aside0.mk hc0
 clear hr0 hc0
 have HB := Aside0.mk (Below.refl w.heap.size w)
 have H : (impl_ObjectsOfBand.l0 k a1 a2 ([] : List (S41)) l0 (l0.length : Int) 0) = some r := h
 clear h
 have H' := Aside0.mk H
 clear H
 go_enter Try.func57, Try.ntmps57
 go_wp2
 go_loopg [7, 12] k (fun kq v7 v12 w' => ∃ (x7_1 : List (S41)) (x12_1 : Int), v12 = .int .i64 x12_1 ∧ Aside0 (impl_ObjectsOfBand.l0 kq a1 a2 x7_1 l0 (l0.length : Int) x12_1 = some r) ∧ Aside0 (kq ≤ k) ∧ Aside0 (Kd.S k41 41 w' w.heap.size (fun _ => True) v7 x7_1) ∧ Aside0 (Below w.heap.size w w'))
 case atStart => exact ⟨(([] : List (S41))), (0), fS, H', ⟨Nat.le_refl _⟩, ⟨by first | exact Kd.S_nil _ _ _ _ _ | exact Kd.N_nil _ _ _ _ _ | exact Kd.V_nil _ _ _ _ _ | exact Kd.Q_nil _ _ _ _ _ | exact Kd.R_nil _ _ _ _ _⟩, ⟨bS⟩⟩
 case round =>
  clear H'
  try clear p2
  obtain ⟨x7_1, x12_1, rfl, HA, HK1, HO_7, HB⟩ := hrel
  cases gk with
  | zero => exact absurd HA.out (by simp [impl_ObjectsOfBand.l0])
  | succ k1 =>
   have H := HA.out
   clear HA
   simp only [impl_ObjectsOfBand.l0] at H
   rcases iD H with ⟨c4b0, H⟩ | ⟨c4b0, H⟩
   ·obtain ⟨c5b0, H⟩ := iT H
    obtain ⟨c6b0, H⟩ := iT H
    replace H := bN H
    obtain ⟨t411, A7, H⟩ := H
    by_cases c8 : t411 = true
    ·subst c8
     rw [if_pos rfl] at H
     replace H := bN H
     obtain ⟨t412, A9, H⟩ := H
     by_cases c10 : t412 = true
     ·subst c10
      rw [if_pos rfl] at H
      replace H := bN H
      obtain ⟨⟨t413, t416, t417, t418, t419, t420⟩, A11, H⟩ := H
      obtain ⟨LMc12, H⟩ := iL H
      obtain ⟨y421, hy421⟩ : ∃ y_ : List (S41), y_ = (x7_1 ++ [(⟨t413, t416, (⟨t417, t418, t419, t420⟩ : S39)⟩ : S41)]) := ⟨_, rfl⟩
      replace H : (impl_ObjectsOfBand.l0 k1 a1 a2 y421 l0 (l0.length : Int) (wrap64 (x12_1 + 1))) = some r := by first | (rw [hy421]; with_reducible exact H) | (have H2_ := (Option.bind_some _ _).symm.trans H; rw [hy421]; with_reducible exact H2_) | (have H2_ := (Option.bind_some _ _).symm.trans H; with_reducible exact H2_) | with_reducible exact H | (rw [hy421]; exact H) | exact H
      have Ny421 := Aside0.mk hy421
      clear hy421
      have H' := Aside0.mk H
      clear H
      have p409 : 0 ≤ (x12_1 : Int) := dA
      have q409 : x12_1 < (l0.length : Int) := dA
      obtain ⟨ad409, A409_0, c409_0, e409, hx409_0, hx409_1, hx409_2, hx409_3, hx409_4, hx409_5, hl409_0, hi409_0⟩ := at_T41 HR0.out x12_1 p409 q409
      cases e409
      replace hx409_0 := cB HB hx409_0
      replace hx409_1 := cB HB hx409_1
      replace hx409_2 := cB HB hx409_2
      replace hx409_3 := cB HB hx409_3
      replace hx409_4 := cB HB hx409_4
      replace hx409_5 := cB HB hx409_5
      have HR409_0 := Aside0.mk hi409_0
      have HC409_0 := Aside0.mk hl409_0
      clear hi409_0 hl409_0
      replace p409 := eq_true p409
      replace q409 := eq_true q409
      go_wp2_with (first | ((with_reducible refine gD 9 ?_); refine bxE #[.slice none 0 0, .int .i64 0, .int .i64 0, .int .i64 0, .int .i64 0, .int .i64 0] 41 ?_; intro gb410 hg w13 BK410 hb; have GW410 := gE hg; have GE410 := gE hg; replace HO_7 := Aside0.mk (Kd.S_below (Kd.S_elderB (sS HO_7) gb410 (Nat.le_of_eq hg.symm)) hb); replace HB := hB hb; clear hb hg; have hz14 := cz6 BK410) | ((with_reducible refine gC 107 ?_); refine cL (some 17) Try.func107 #[.agg #[.slice A409_0 ((rd_T41 l0 x12_1).f0).length c409_0, .int .i64 ((rd_T41 l0 x12_1).f1), .int .i64 ((rd_T41 l0 x12_1).f2.f0), .int .i64 ((rd_T41 l0 x12_1).f2.f1), .int .i64 ((rd_T41 l0 x12_1).f2.f2), .int .i64 ((rd_T41 l0 x12_1).f2.f3)]] ?_; (with_reducible refine (impl_ObjectOk.calls k1 _ _ ((rd_T41 l0 x12_1).f0) ((rd_T41 l0 x12_1).f1) ((rd_T41 l0 x12_1).f2.f0) ((rd_T41 l0 x12_1).f2.f1) ((rd_T41 l0 x12_1).f2.f2) ((rd_T41 l0 x12_1).f2.f3) _ _ (Kd.C_below HR409_0.out bS) HC409_0.out A7.out).mono ?_); rintro e w15 ⟨rfl, hb⟩; refine ⟨_, rfl, ?_⟩; replace HO_7 := Aside0.mk (Kd.S_below (by exact sT (Kd.S_mono (Kd.S_far (p := ⟨gb410, 5, none⟩) (Kd.S_far (p := ⟨gb410, 4, none⟩) (Kd.S_far (p := ⟨gb410, 3, none⟩) (Kd.S_far (p := ⟨gb410, 2, none⟩) (Kd.S_far (p := ⟨gb410, 1, none⟩) (Kd.S_far (p := ⟨gb410, 0, none⟩) (Kd.S_mono HO_7.out (fun k_ hk => (⟨hk, hk.2⟩ : _ ∧ k_ ≠ gb410))) (fun _ hk => hk.2) (.slice A409_0 ((rd_T41 l0 x12_1).f0).length c409_0)) (fun _ hk => hk.2) (.int .i64 ((rd_T41 l0 x12_1).f1))) (fun _ hk => hk.2) (.int .i64 ((rd_T41 l0 x12_1).f2.f0))) (fun _ hk => hk.2) (.int .i64 ((rd_T41 l0 x12_1).f2.f1))) (fun _ hk => hk.2) (.int .i64 ((rd_T41 l0 x12_1).f2.f2))) (fun _ hk => hk.2) (.int .i64 ((rd_T41 l0 x12_1).f2.f3))) (fun _ h_ => h_.1))) hb); replace BK410 := Aside0.mk (blk_below (g := gb410) (o := .cells #[.slice A409_0 ((rd_T41 l0 x12_1).f0).length c409_0, .int .i64 ((rd_T41 l0 x12_1).f1), .int .i64 ((rd_T41 l0 x12_1).f2.f0), .int .i64 ((rd_T41 l0 x12_1).f2.f1), .int .i64 ((rd_T41 l0 x12_1).f2.f2), .int .i64 ((rd_T41 l0 x12_1).f2.f3)] 41 (0, 0)) kS hb); replace HB := hB hb; (try clear hb); (try clear hb2); (try clear hk); (try clear hi); have hz16 := cz6 BK410) | (go_at_call 32; (with_reducible refine (impl_TouchesBand.calls k1 _ _ ((rd_T41 l0 x12_1).f0) ((rd_T41 l0 x12_1).f1) ((rd_T41 l0 x12_1).f2.f0) ((rd_T41 l0 x12_1).f2.f1) ((rd_T41 l0 x12_1).f2.f2) ((rd_T41 l0 x12_1).f2.f3) a1 a2 _ _ (cS (Kd.C_below HR409_0.out HB.out)) HC409_0.out A9.out).mono ?_); rintro e w17 ⟨rfl, hb⟩; replace HO_7 := sB HO_7 hb; replace BK410 := kB (g := gb410) hb; replace HB := hB hb; (try clear hb); (try clear hb2); (try clear hk); (try clear hi); have hz18 := cz6 BK410) | ((with_reducible refine gC 117 ?_); refine cL (some 26) Try.func117 #[.agg #[.slice A409_0 ((rd_T41 l0 x12_1).f0).length c409_0, .int .i64 ((rd_T41 l0 x12_1).f1), .int .i64 ((rd_T41 l0 x12_1).f2.f0), .int .i64 ((rd_T41 l0 x12_1).f2.f1), .int .i64 ((rd_T41 l0 x12_1).f2.f2), .int .i64 ((rd_T41 l0 x12_1).f2.f3)]] ?_; (with_reducible refine (impl_copyObject.calls _ _ ((rd_T41 l0 x12_1).f0) ((rd_T41 l0 x12_1).f1) ((rd_T41 l0 x12_1).f2.f0) ((rd_T41 l0 x12_1).f2.f1) ((rd_T41 l0 x12_1).f2.f2) ((rd_T41 l0 x12_1).f2.f3) t413 t416 t417 t418 t419 t420 _ (cS (Kd.C_below HR409_0.out HB.out)) HC409_0.out A11.out).mono ?_); rintro e w19 ⟨v414, rfl, ho0, hb⟩; refine ⟨_, rfl, ?_⟩; have HO415 := Aside0.mk (Kd.R_lower ho0 (below_size bS)); replace HO_7 := Aside0.mk (Kd.S_elder' (sS HO_7) (Kd.R_base ho0) hb); replace BK410 := kB (g := gb410) hb; replace HB := hB hb; (try clear hb); (try clear hb2); (try clear hk); (try clear hi); (try clear ho0); obtain ⟨Ao21, co21, eo21⟩ := Kd.R_slice HO415.out; subst eo21) | ((with_reducible refine gate_builtin (b := .append) (xs := #[.tmp 24, .tmp 27]) rfl ?_); at_builtin; refine Kd.S_append k41 (w0 := w) w.heap.size rfl (.tmp 24) (.tmp 27) 44 41 (.agg #[(.slice none 0 0), (.int .i64 0), (.int .i64 0), (.int .i64 0), (.int .i64 0), (.int .i64 0)]) 64 rfl Try.underlying44 info41 rfl (by decide) (by omega) u7 x7_1 (⟨t413, t416, (⟨t417, t418, t419, t420⟩ : S39)⟩ : S41) [.slice Ao21 t413.length co21, .int .i64 t416, .int .i64 t417, .int .i64 t418, .int .i64 t419, .int .i64 t420] (fun k_ => k_ ≠ gb410) (fun k_ => some k_ = (.slice Ao21 t413.length co21 : Value).ownBlock) rfl rfl ?aP (fun k_ hk_ => ((Kd.R_mono (ok' := fun k_ => ((fun k_ => k_ ≠ gb410)) k_ ∧ some k_ ≠ (u7 : Value).ownBlock) (Kd.R_types (Kd.R_apart' (HO415.out) (Kd.S_typed HO_7.out) (by decide)) BK410.out (by decide)) (fun k_ hk => ⟨hk.2, hk.1.2⟩))).1 k_ hk_.symm) ?aF ?aO ?aB ?aS ?aL ?_; (case aP => exact k41_mkM _ _ _ (⟨t413, t416, (⟨t417, t418, t419, t420⟩ : S39)⟩ : S41) (Kd.R_mono (Kd.R_tight rfl (Kd.R_mono (ok' := fun k_ => ((fun k_ => k_ ≠ gb410)) k_ ∧ some k_ ≠ (u7 : Value).ownBlock) (Kd.R_types (Kd.R_apart' (HO415.out) (Kd.S_typed HO_7.out) (by decide)) BK410.out (by decide)) (fun k_ hk => ⟨hk.2, hk.1.2⟩))) (fun _ h_ => h_))); (case aB => exact bS); (case aF => exact (fun k_ hk => Kd.freshB (g := gb410) kS k_ hk)); (case aO => exact (by exact sT (Kd.S_mono HO_7.out (fun k_ hk => ⟨hk.1.2, fun e_ => hk.2 e_⟩)))); (case aS => exact (below_size bS)); (case aL => have := LMc12.out; omega); intro v422 w20 ho hb hg hat; rw [← Ny421.out] at ho; have HO423 := Aside0.mk (ho); replace BK410 := Aside0.mk (blk_grown (g := gb410) kS hg (Kd.S_away HO_7.out (fun _ hk => hk.1.2))); replace HB := Aside0.mk (hb); clear HO_7 HO415; clear ho hb hg hat))
      go_roundg k1
      case measure => have := HK1.out; omega
      case rel => exact ⟨(y421), (wrap64 (x12_1 + 1)), fS, H', ⟨by have := HK1.out; omega⟩, ⟨by exact sT (Kd.S_mono HO423.out (fun _ hk => trivial))⟩, ⟨bS⟩⟩
     ·obtain rfl := Bool.eq_false_iff.mpr c10
      rw [if_neg nF] at H
      have H' := Aside0.mk H
      clear H
      have p409 : 0 ≤ (x12_1 : Int) := dA
      have q409 : x12_1 < (l0.length : Int) := dA
      obtain ⟨ad409, A409_0, c409_0, e409, hx409_0, hx409_1, hx409_2, hx409_3, hx409_4, hx409_5, hl409_0, hi409_0⟩ := at_T41 HR0.out x12_1 p409 q409
      cases e409
      replace hx409_0 := cB HB hx409_0
      replace hx409_1 := cB HB hx409_1
      replace hx409_2 := cB HB hx409_2
      replace hx409_3 := cB HB hx409_3
      replace hx409_4 := cB HB hx409_4
      replace hx409_5 := cB HB hx409_5
      have HR409_0 := Aside0.mk hi409_0
      have HC409_0 := Aside0.mk hl409_0
      clear hi409_0 hl409_0
      replace p409 := eq_true p409
      replace q409 := eq_true q409
      go_wp2_with (first | ((with_reducible refine gD 9 ?_); refine bxE #[.slice none 0 0, .int .i64 0, .int .i64 0, .int .i64 0, .int .i64 0, .int .i64 0] 41 ?_; intro gb410 hg w22 BK410 hb; have GW410 := gE hg; have GE410 := gE hg; replace HO_7 := Aside0.mk (Kd.S_below (Kd.S_elderB (sS HO_7) gb410 (Nat.le_of_eq hg.symm)) hb); replace HB := hB hb; clear hb hg; have hz23 := cz6 BK410) | ((with_reducible refine gC 107 ?_); refine cL (some 17) Try.func107 #[.agg #[.slice A409_0 ((rd_T41 l0 x12_1).f0).length c409_0, .int .i64 ((rd_T41 l0 x12_1).f1), .int .i64 ((rd_T41 l0 x12_1).f2.f0), .int .i64 ((rd_T41 l0 x12_1).f2.f1), .int .i64 ((rd_T41 l0 x12_1).f2.f2), .int .i64 ((rd_T41 l0 x12_1).f2.f3)]] ?_; (with_reducible refine (impl_ObjectOk.calls k1 _ _ ((rd_T41 l0 x12_1).f0) ((rd_T41 l0 x12_1).f1) ((rd_T41 l0 x12_1).f2.f0) ((rd_T41 l0 x12_1).f2.f1) ((rd_T41 l0 x12_1).f2.f2) ((rd_T41 l0 x12_1).f2.f3) _ _ (Kd.C_below HR409_0.out bS) HC409_0.out A7.out).mono ?_); rintro e w24 ⟨rfl, hb⟩; refine ⟨_, rfl, ?_⟩; replace HO_7 := Aside0.mk (Kd.S_below (by exact sT (Kd.S_mono (Kd.S_far (p := ⟨gb410, 5, none⟩) (Kd.S_far (p := ⟨gb410, 4, none⟩) (Kd.S_far (p := ⟨gb410, 3, none⟩) (Kd.S_far (p := ⟨gb410, 2, none⟩) (Kd.S_far (p := ⟨gb410, 1, none⟩) (Kd.S_far (p := ⟨gb410, 0, none⟩) (Kd.S_mono HO_7.out (fun k_ hk => (⟨hk, hk.2⟩ : _ ∧ k_ ≠ gb410))) (fun _ hk => hk.2) (.slice A409_0 ((rd_T41 l0 x12_1).f0).length c409_0)) (fun _ hk => hk.2) (.int .i64 ((rd_T41 l0 x12_1).f1))) (fun _ hk => hk.2) (.int .i64 ((rd_T41 l0 x12_1).f2.f0))) (fun _ hk => hk.2) (.int .i64 ((rd_T41 l0 x12_1).f2.f1))) (fun _ hk => hk.2) (.int .i64 ((rd_T41 l0 x12_1).f2.f2))) (fun _ hk => hk.2) (.int .i64 ((rd_T41 l0 x12_1).f2.f3))) (fun _ h_ => h_.1))) hb); replace BK410 := Aside0.mk (blk_below (g := gb410) (o := .cells #[.slice A409_0 ((rd_T41 l0 x12_1).f0).length c409_0, .int .i64 ((rd_T41 l0 x12_1).f1), .int .i64 ((rd_T41 l0 x12_1).f2.f0), .int .i64 ((rd_T41 l0 x12_1).f2.f1), .int .i64 ((rd_T41 l0 x12_1).f2.f2), .int .i64 ((rd_T41 l0 x12_1).f2.f3)] 41 (0, 0)) kS hb); replace HB := hB hb; (try clear hb); (try clear hb2); (try clear hk); (try clear hi); have hz25 := cz6 BK410) | (go_at_call 32; (with_reducible refine (impl_TouchesBand.calls k1 _ _ ((rd_T41 l0 x12_1).f0) ((rd_T41 l0 x12_1).f1) ((rd_T41 l0 x12_1).f2.f0) ((rd_T41 l0 x12_1).f2.f1) ((rd_T41 l0 x12_1).f2.f2) ((rd_T41 l0 x12_1).f2.f3) a1 a2 _ _ (cS (Kd.C_below HR409_0.out HB.out)) HC409_0.out A9.out).mono ?_); rintro e w26 ⟨rfl, hb⟩; replace HO_7 := sB HO_7 hb; replace BK410 := kB (g := gb410) hb; replace HB := hB hb; (try clear hb); (try clear hb2); (try clear hk); (try clear hi)))
      go_roundg k1
      case measure => have := HK1.out; omega
      case rel => exact ⟨(x7_1), (wrap64 (x12_1 + 1)), fS, H', ⟨by have := HK1.out; omega⟩, ⟨by exact sT (Kd.S_mono HO_7.out (fun _ hk => trivial))⟩, ⟨bS⟩⟩
    ·obtain rfl := Bool.eq_false_iff.mpr c8
     rw [if_neg nF] at H
     have H' := Aside0.mk H
     clear H
     have p409 : 0 ≤ (x12_1 : Int) := dA
     have q409 : x12_1 < (l0.length : Int) := dA
     obtain ⟨ad409, A409_0, c409_0, e409, hx409_0, hx409_1, hx409_2, hx409_3, hx409_4, hx409_5, hl409_0, hi409_0⟩ := at_T41 HR0.out x12_1 p409 q409
     cases e409
     replace hx409_0 := cB HB hx409_0
     replace hx409_1 := cB HB hx409_1
     replace hx409_2 := cB HB hx409_2
     replace hx409_3 := cB HB hx409_3
     replace hx409_4 := cB HB hx409_4
     replace hx409_5 := cB HB hx409_5
     have HR409_0 := Aside0.mk hi409_0
     have HC409_0 := Aside0.mk hl409_0
     clear hi409_0 hl409_0
     replace p409 := eq_true p409
     replace q409 := eq_true q409
     go_wp2_with (first | ((with_reducible refine gD 9 ?_); refine bxE #[.slice none 0 0, .int .i64 0, .int .i64 0, .int .i64 0, .int .i64 0, .int .i64 0] 41 ?_; intro gb410 hg w27 BK410 hb; have GW410 := gE hg; have GE410 := gE hg; replace HO_7 := Aside0.mk (Kd.S_below (Kd.S_elderB (sS HO_7) gb410 (Nat.le_of_eq hg.symm)) hb); replace HB := hB hb; clear hb hg; have hz28 := cz6 BK410) | ((with_reducible refine gC 107 ?_); refine cL (some 17) Try.func107 #[.agg #[.slice A409_0 ((rd_T41 l0 x12_1).f0).length c409_0, .int .i64 ((rd_T41 l0 x12_1).f1), .int .i64 ((rd_T41 l0 x12_1).f2.f0), .int .i64 ((rd_T41 l0 x12_1).f2.f1), .int .i64 ((rd_T41 l0 x12_1).f2.f2), .int .i64 ((rd_T41 l0 x12_1).f2.f3)]] ?_; (with_reducible refine (impl_ObjectOk.calls k1 _ _ ((rd_T41 l0 x12_1).f0) ((rd_T41 l0 x12_1).f1) ((rd_T41 l0 x12_1).f2.f0) ((rd_T41 l0 x12_1).f2.f1) ((rd_T41 l0 x12_1).f2.f2) ((rd_T41 l0 x12_1).f2.f3) _ _ (Kd.C_below HR409_0.out bS) HC409_0.out A7.out).mono ?_); rintro e w29 ⟨rfl, hb⟩; refine ⟨_, rfl, ?_⟩; replace HO_7 := Aside0.mk (Kd.S_below (by exact sT (Kd.S_mono (Kd.S_far (p := ⟨gb410, 5, none⟩) (Kd.S_far (p := ⟨gb410, 4, none⟩) (Kd.S_far (p := ⟨gb410, 3, none⟩) (Kd.S_far (p := ⟨gb410, 2, none⟩) (Kd.S_far (p := ⟨gb410, 1, none⟩) (Kd.S_far (p := ⟨gb410, 0, none⟩) (Kd.S_mono HO_7.out (fun k_ hk => (⟨hk, hk.2⟩ : _ ∧ k_ ≠ gb410))) (fun _ hk => hk.2) (.slice A409_0 ((rd_T41 l0 x12_1).f0).length c409_0)) (fun _ hk => hk.2) (.int .i64 ((rd_T41 l0 x12_1).f1))) (fun _ hk => hk.2) (.int .i64 ((rd_T41 l0 x12_1).f2.f0))) (fun _ hk => hk.2) (.int .i64 ((rd_T41 l0 x12_1).f2.f1))) (fun _ hk => hk.2) (.int .i64 ((rd_T41 l0 x12_1).f2.f2))) (fun _ hk => hk.2) (.int .i64 ((rd_T41 l0 x12_1).f2.f3))) (fun _ h_ => h_.1))) hb); replace BK410 := Aside0.mk (blk_below (g := gb410) (o := .cells #[.slice A409_0 ((rd_T41 l0 x12_1).f0).length c409_0, .int .i64 ((rd_T41 l0 x12_1).f1), .int .i64 ((rd_T41 l0 x12_1).f2.f0), .int .i64 ((rd_T41 l0 x12_1).f2.f1), .int .i64 ((rd_T41 l0 x12_1).f2.f2), .int .i64 ((rd_T41 l0 x12_1).f2.f3)] 41 (0, 0)) kS hb); replace HB := hB hb; (try clear hb); (try clear hb2); (try clear hk); (try clear hi)))
     go_roundg k1
     case measure => have := HK1.out; omega
     case rel => exact ⟨(x7_1), (wrap64 (x12_1 + 1)), fS, H', ⟨by have := HK1.out; omega⟩, ⟨by exact sT (Kd.S_mono HO_7.out (fun _ hk => trivial))⟩, ⟨bS⟩⟩
   ·obtain rfl := Option.some.inj H
    go_wp2
    go_ret
    exact ⟨_, eS, sS HO_7, bS⟩

/-! ### laws_FnTouches: function 9 -/
def laws_FnTouches.l0 : Nat → Int → Int → Int → List (S166) → Int → Int → Int → Int → Int → Option (Bool)
 | 0, _, _, _, _, _, _, _, _, _ => none
 | k + 1, x4, x5, x6, x434000, x434001, x434002, x434003, x434004, x434005 => if x6 < x5 then ((impl_RenderBand.f k (([(⟨x434000, x434001, (⟨x434002, x434003, x434004, x434005⟩ : S39)⟩ : S41)] : List (S41))) x4 x6).bind fun t440 => (if (t440.length : Int) = x4 then ((impl_TouchesBand.f k x434000 x434001 x434002 x434003 x434004 x434005 x4 x6).bind fun t443 => (if t443 = true then (laws_FnTouches.l0 k x4 x5 (wrap64 (x6 + 1)) x434000 x434001 x434002 x434003 x434004 x434005) else ((impl_WhiteRows.f k x4).bind fun t444 => ((impl_SameRows.f k t440 t444).bind fun t447 => (if t447 = true then ((impl_ObjectsOfBand.f k (([(⟨x434000, x434001, (⟨x434002, x434003, x434004, x434005⟩ : S39)⟩ : S41)] : List (S41))) x4 x6).bind fun t451 => (if (t451.length : Int) = 0 then (laws_FnTouches.l0 k x4 x5 (wrap64 (x6 + 1)) x434000 x434001 x434002 x434003 x434004 x434005) else (some false))) else (some false)))))) else (some false))) else (some true)
def laws_FnTouches.f (k : Nat) (l0 : List Int) : Option (Bool) := (laws_big.f l0).bind fun t424 => (if t424 = true then (some true) else ((spec_DrawObject.f k l0).bind fun bt425 => ((spec_DrawHeight.f k l0).bind fun t434 => ((spec_CountBands.f t434).bind fun t435 => ((impl_CountBands.f t434).bind fun t436 => (if t436 = t435 then (laws_FnTouches.l0 k t434 t435 0 bt425.1 bt425.2.1 bt425.2.2.1 bt425.2.2.2.1 bt425.2.2.2.2.1 bt425.2.2.2.2.2) else (some false)))))))
theorem laws_FnTouches.calls (k : Nat) (A0 : Option Addr) (c0 : Nat) (l0 : List Int) (r : Bool) (w : World) (hr0 : Kd.C (Kd.int .u8) w A0 l0.length l0) (hc0 : l0.length ≤ c0) (h : laws_FnTouches.f k l0 = some r) (hT : r = true) :
  Calls Try.prog 9 #[.slice A0 l0.length c0] w fun e w' => e = .returned (.bool r) ∧ Below w.heap.size w w' := by
 have hu41 := Try.underlying41
 have HR0 := Aside0.mk hr0
 have HC0 := Aside0.mk hc0
 clear hr0 hc0
 have HB := Aside0.mk (Below.refl w.heap.size w)
 have H : ((laws_big.f l0).bind fun t424 => (if t424 = true then (some true) else ((spec_DrawObject.f k l0).bind fun bt425 => ((spec_DrawHeight.f k l0).bind fun t434 => ((spec_CountBands.f t434).bind fun t435 => ((impl_CountBands.f t434).bind fun t436 => (if t436 = t435 then (laws_FnTouches.l0 k t434 t435 0 bt425.1 bt425.2.1 bt425.2.2.1 bt425.2.2.2.1 bt425.2.2.2.2.1 bt425.2.2.2.2.2) else (some false)))))))) = some r := h
 clear h
 replace H := bN H
 obtain ⟨t424, A2, H⟩ := H
 by_cases c3 : t424 = true
 ·subst c3
  rw [if_pos rfl] at H
  obtain rfl := Option.some.inj H
  (try clear hT)
  go_enter Try.func9, Try.ntmps9
  go_wp2_with (first | ((with_reducible refine gC 24 ?_); refine cL (some 9) Try.func24 #[.slice A0 l0.length c0] ?_; (with_reducible refine (laws_big.calls _ _ l0 _ _ ?side1 ?side2 A2.out).mono ?_); (case side1 => repeat (first | exact HR0.out | (with_reducible refine Kd.C_alloc ?_ _) | (with_reducible refine Kd.C_drewN ?_ _) | (with_reducible refine Kd.C_drew ?_))); (case side2 => exact HC0.out); rintro e w' ⟨rfl, ⟨nd, rfl⟩⟩; refine ⟨_, rfl, ?_⟩))
  go_ret
  exact ⟨eS, bS⟩
 ·obtain rfl := Bool.eq_false_iff.mpr c3
  rw [if_neg nF] at H
  replace H := bN H
  obtain ⟨⟨t425, t428, t429, t430, t431, t432⟩, A4, H⟩ := H
  replace H := bN H
  obtain ⟨t434, A5, H⟩ := H
  replace H := bN H
  obtain ⟨t435, A6, H⟩ := H
  replace H := bN H
  obtain ⟨t436, A7, H⟩ := H
  by_cases c8 : t436 = t435
  ·rw [if_pos c8] at H
   have c8b0 : (t436 == t435) = true := beq_iff_eq.mpr c8
   have c8b1 : (t436 != t435) = false := bne_eq_false_iff_eq.mpr c8
   clear c8
   have H' := Aside0.mk H
   clear H
   go_enter Try.func9, Try.ntmps9
   go_wp2_with (first | ((with_reducible refine gC 24 ?_); refine cL (some 9) Try.func24 #[.slice A0 l0.length c0] ?_; (with_reducible refine (laws_big.calls _ _ l0 _ _ ?side1 ?side2 A2.out).mono ?_); (case side1 => repeat (first | exact HR0.out | (with_reducible refine Kd.C_alloc ?_ _) | (with_reducible refine Kd.C_drewN ?_ _) | (with_reducible refine Kd.C_drew ?_))); (case side2 => exact HC0.out); rintro e w' ⟨rfl, ⟨nd, rfl⟩⟩; refine ⟨_, rfl, ?_⟩) | ((with_reducible refine gC 25 ?_); refine cL (some 11) Try.func25 #[.slice A0 l0.length c0] ?_; (with_reducible refine (spec_DrawObject.calls k _ _ l0 t425 t428 t429 t430 t431 t432 _ ?side1 ?side2 A4.out).mono ?_); (case side1 => repeat (first | exact HR0.out | (with_reducible refine Kd.C_alloc ?_ _) | (with_reducible refine Kd.C_drewN ?_ _) | (with_reducible refine Kd.C_drew ?_))); (case side2 => exact HC0.out); rintro e w9 ⟨v426, rfl, ho0, hb⟩; refine ⟨_, rfl, ?_⟩; have HO427 := Aside0.mk (Kd.R_lower ho0 (below_size bS)); replace HB := hB hb; (try clear hb); (try clear hb2); (try clear hk); (try clear hi); (try clear ho0)) | ((with_reducible refine gD 3 ?_); refine bxE #[.slice none 0 0, .int .i64 0, .int .i64 0, .int .i64 0, .int .i64 0, .int .i64 0] 41 ?_; intro gb433 hg w10 BK433 hb; have GW433 := gE hg; have GE433 := gE hg; replace HO427 := Aside0.mk (Kd.R_below (rS HO427) hb); replace HB := hB hb; clear hb hg; obtain ⟨Ao11, co11, eo11⟩ := Kd.R_slice HO427.out; subst eo11; have hcz12_0 : w10.cell? ⟨gb433, 0, none⟩ = some (.slice none 0 0) := (blk_cell BK433.out 0).trans rfl; have hcz12_1 : w10.cell? ⟨gb433, 1, none⟩ = some (.int .i64 0) := (blk_cell BK433.out 1).trans rfl; have hcz12_2 : w10.cell? ⟨gb433, 2, none⟩ = some (.int .i64 0) := (blk_cell BK433.out 2).trans rfl; have hcz12_3 : w10.cell? ⟨gb433, 3, none⟩ = some (.int .i64 0) := (blk_cell BK433.out 3).trans rfl; have hcz12_4 : w10.cell? ⟨gb433, 4, none⟩ = some (.int .i64 0) := (blk_cell BK433.out 4).trans rfl; have hcz12_5 : w10.cell? ⟨gb433, 5, none⟩ = some (.int .i64 0) := (blk_cell BK433.out 5).trans rfl; have hfz12_0 := blk_frozen BK433.out 0; have hfz12_1 := blk_frozen BK433.out 1; have hfz12_2 := blk_frozen BK433.out 2; have hfz12_3 := blk_frozen BK433.out 3; have hfz12_4 := blk_frozen BK433.out 4; have hfz12_5 := blk_frozen BK433.out 5) | ((with_reducible refine gC 26 ?_); refine cL (some 13) Try.func26 #[.slice A0 l0.length c0] ?_; (with_reducible refine (spec_DrawHeight.calls k _ _ l0 t434 _ (Kd.C_below HR0.out bS) HC0.out A5.out).mono ?_); rintro e w13 ⟨rfl, hb⟩; refine ⟨_, rfl, ?_⟩; replace HO427 := Aside0.mk (Kd.R_below (by exact rT (Kd.R_mono (Kd.R_far (p := ⟨gb433, 5, none⟩) (Kd.R_far (p := ⟨gb433, 4, none⟩) (Kd.R_far (p := ⟨gb433, 3, none⟩) (Kd.R_far (p := ⟨gb433, 2, none⟩) (Kd.R_far (p := ⟨gb433, 1, none⟩) (Kd.R_far (p := ⟨gb433, 0, none⟩) (Kd.R_types HO427.out BK433.out (by decide)) (fun _ hk => hk.2) (.slice Ao11 t425.length co11)) (fun _ hk => hk.2) (.int .i64 t428)) (fun _ hk => hk.2) (.int .i64 t429)) (fun _ hk => hk.2) (.int .i64 t430)) (fun _ hk => hk.2) (.int .i64 t431)) (fun _ hk => hk.2) (.int .i64 t432)) (fun _ h_ => h_.1))) hb); replace BK433 := Aside0.mk (blk_below (g := gb433) (o := .cells #[.slice Ao11 t425.length co11, .int .i64 t428, .int .i64 t429, .int .i64 t430, .int .i64 t431, .int .i64 t432] 41 (0, 0)) kS hb); replace HB := hB hb; (try clear hb); (try clear hb2); (try clear hk); (try clear hi)) | ((with_reducible refine gC 28 ?_); refine cL (some 15) Try.func28 #[.int .i64 t434] ?_; (with_reducible refine (spec_CountBands.calls t434 t435 _ A6.out).mono ?_); rintro e w' ⟨rfl, ⟨nd, rfl⟩⟩; refine ⟨_, rfl, ?_⟩) | ((with_reducible refine gC 29 ?_); refine cL (some 17) Try.func29 #[.int .i64 t434] ?_; (with_reducible refine (impl_CountBands.calls t434 t436 _ A7.out).mono ?_); rintro e w' ⟨rfl, ⟨nd, rfl⟩⟩; refine ⟨_, rfl, ?_⟩))
   go_loopg [6] k (fun kq v6 w' => ∃ (x6_1 : Int), v6 = .int .i64 x6_1 ∧ Aside0 (laws_FnTouches.l0 kq t434 t435 x6_1 t425 t428 t429 t430 t431 t432 = some r) ∧ Aside0 (kq ≤ k) ∧ Aside0 (Kd.R k166 166 w' w.heap.size (fun _ => True) (.slice Ao11 t425.length co11) t425) ∧ Aside0 (w'.heap[gb433]? = some (.cells #[(.slice Ao11 t425.length co11), .int .i64 t428, .int .i64 t429, .int .i64 t430, .int .i64 t431, .int .i64 t432] 41 (0, 0))) ∧ Aside0 (Below w.heap.size w w'))
   case atStart => exact ⟨(0), fS, H', ⟨Nat.le_refl _⟩, ⟨rS HO427⟩, ⟨kS⟩, ⟨bS⟩⟩
   case round =>
    clear H'
    try clear c2
    try clear p2
    try clear c3
    try clear c8
    try clear c8b0
    try clear c8b1
    try clear c9
    try clear hcz12_0
    try clear hcz12_1
    try clear hcz12_2
    try clear hcz12_3
    try clear hcz12_4
    try clear hcz12_5
    try clear hfz12_0
    try clear hfz12_1
    try clear hfz12_2
    try clear hfz12_3
    try clear hfz12_4
    try clear hfz12_5
    obtain ⟨x6_1, rfl, HA, HK1, HO_434000, BK433, HB⟩ := hrel
    cases gk with
    | zero => exact absurd HA.out (by simp [laws_FnTouches.l0])
    | succ k1 =>
     have H := HA.out
     clear HA
     simp only [laws_FnTouches.l0] at H
     rcases iD H with ⟨c14b0, H⟩ | ⟨c14b0, H⟩
     ·obtain ⟨y437, hy437⟩ : ∃ y_ : List (S41), y_ = (([(⟨t425, t428, (⟨t429, t430, t431, t432⟩ : S39)⟩ : S41)] : List (S41))) := ⟨_, rfl⟩
      replace H : ((impl_RenderBand.f k1 y437 t434 x6_1).bind fun t440 => (if (t440.length : Int) = t434 then ((impl_TouchesBand.f k1 t425 t428 t429 t430 t431 t432 t434 x6_1).bind fun t443 => (if t443 = true then (laws_FnTouches.l0 k1 t434 t435 (wrap64 (x6_1 + 1)) t425 t428 t429 t430 t431 t432) else ((impl_WhiteRows.f k1 t434).bind fun t444 => ((impl_SameRows.f k1 t440 t444).bind fun t447 => (if t447 = true then ((impl_ObjectsOfBand.f k1 (([(⟨t425, t428, (⟨t429, t430, t431, t432⟩ : S39)⟩ : S41)] : List (S41))) t434 x6_1).bind fun t451 => (if (t451.length : Int) = 0 then (laws_FnTouches.l0 k1 t434 t435 (wrap64 (x6_1 + 1)) t425 t428 t429 t430 t431 t432) else (some false))) else (some false)))))) else (some false))) = some r := by first | (rw [hy437]; with_reducible exact H) | (have H2_ := (Option.bind_some _ _).symm.trans H; rw [hy437]; with_reducible exact H2_) | (have H2_ := (Option.bind_some _ _).symm.trans H; with_reducible exact H2_) | with_reducible exact H | (rw [hy437]; exact H) | exact H
      have Ny437 := Aside0.mk hy437
      clear hy437
      replace H := bN H
      obtain ⟨t440, A15, H⟩ := H
      by_cases c16 : (t440.length : Int) = t434
      ·rw [if_pos c16] at H
       have c16b0 : ((t440.length : Int) == t434) = true := beq_iff_eq.mpr c16
       have c16b1 : ((t440.length : Int) != t434) = false := bne_eq_false_iff_eq.mpr c16
       clear c16
       replace H := bN H
       obtain ⟨t443, A17, H⟩ := H
       by_cases c18 : t443 = true
       ·subst c18
        rw [if_pos rfl] at H
        have H' := Aside0.mk H
        clear H
        have hz19 := cz6 BK433
        go_wp2_with (first | ((with_reducible refine gate_dst (N := 26) rfl ?_); (try (refine gG (by rfl) (by rfl) ?_; dsimp only)); refine Kd.N_lit k41 _ 41 ?hg (N' := 26) ?hd (xs := ([(⟨t425, t428, (⟨t429, t430, t431, t432⟩ : S39)⟩ : S41)] : List (S41))) (inner := [.slice Ao11 t425.length co11, .int .i64 t428, .int .i64 t429, .int .i64 t430, .int .i64 t431, .int .i64 t432]) (ok := (fun k_ => k_ ≠ gb433)) (okp := (fun k_ => k_ ≠ gb433)) ?hr ?hp (fun _ hk => hk) ((show ∀ k_, wr.heap.size ≤ k_ → (fun k_ => k_ ≠ gb433) k_ from fun k_ hk => Kd.freshB (g := gb433) kS k_ hk) _ (Nat.le_refl _)) (Below.refl _ _) (Nat.le_refl _) (by simp) ?_; (case hd => rfl); (case hg => rfl); (case hr => first | (go_simp; done) | (go_simp; rfl)); (case hp => exact (Reps.c6 (show Kd.FK k41 _ _ (⟨t425, t428, (⟨t429, t430, t431, t432⟩ : S39)⟩ : S41) [.slice Ao11 t425.length co11, .int .i64 t428, .int .i64 t429, .int .i64 t430, .int .i64 t431, .int .i64 t432] from (k41_mkF _ _ (⟨t425, t428, (⟨t429, t430, t431, t432⟩ : S39)⟩ : S41) (Kd.R_reads' (Kd.R_mono (ok' := (fun k_ => k_ ≠ gb433)) (Kd.R_types (HO_434000.out) BK433.out (by decide)) (fun k_ hk => hk.2))).2.1 (Kd.R_F (Kd.R_mono (ok' := (fun k_ => k_ ≠ gb433)) (Kd.R_types (HO_434000.out) BK433.out (by decide)) (fun k_ hk => hk.2))))) (Reps.none _ _))); intro v438 w20 ho21 hb hg_ hnew_; clear hg_ hnew_; (first | rw [← Ny437.out] at ho21 | (simp only [Int.reduceToNat] at ho21; rw [← Ny437.out] at ho21)); have HO439 := Aside0.mk (Kd.N_lower ho21 (below_size bS)); replace HO_434000 := Aside0.mk (Kd.R_below (rS HO_434000) hb); replace BK433 := kB (g := gb433) hb; replace HB := hB hb; clear hb ho21; obtain ⟨Ao22, co22, eo22⟩ := Kd.N_slice HO439.out; subst eo22) | ((with_reducible refine gC 56 ?_); refine cL (some 29) Try.func56 #[.slice Ao22 y437.length co22, .int .i64 t434, .int .i64 x6_1] ?_; (with_reducible refine (impl_RenderBand.calls k1 _ _ y437 t434 x6_1 t440 _ ?side1 ?side2 A15.out).mono ?_); (case side1 => exact cS (Kd.N_reads' HO439.out).2.2); (case side2 => exact (Kd.N_reads' HO439.out).2.1); rintro e w23 ⟨v441, rfl, ho0, hb⟩; refine ⟨_, rfl, ?_⟩; have HO442 := Aside0.mk (Kd.N_lower (Kd.N_mono (ok' := fun k_ => some k_ ≠ (.slice Ao11 t425.length co11 : Value).ownBlock ∧ some k_ ≠ (.slice Ao22 y437.length co22 : Value).ownBlock ∧ k_ ≠ gb433) (Kd.S_N (Kd.S_bound ho0)) (fun k_ hk_ => ⟨(Kd.fresh' (Kd.R_lt (rS HO_434000)) k_ hk_.2.1), (Kd.fresh' (Kd.N_lt (nS HO439)) k_ hk_.2.1), (Kd.freshB (g := gb433) kS k_ hk_.2.1)⟩)) (below_size bS)); replace HO_434000 := Aside0.mk (Kd.R_below (rS HO_434000) hb); replace HO439 := Aside0.mk (Kd.N_elder' (nS HO439) (Kd.S_base ho0) hb); replace BK433 := kB (g := gb433) hb; replace HB := hB hb; (try clear hb); (try clear hb2); (try clear hk); (try clear hi); (try clear ho0); obtain ⟨Ao24, co24, eo24⟩ := Kd.N_slice HO442.out; subst eo24; have hz25 := cz6 BK433) | (go_at_call 32; (with_reducible refine (impl_TouchesBand.calls k1 _ _ t425 t428 t429 t430 t431 t432 t434 x6_1 _ _ (cS (Kd.R_reads' HO_434000.out).2.2) ((Kd.R_reads' HO_434000.out).2.1) A17.out).mono ?_); rintro e w26 ⟨rfl, hb⟩; replace HO_434000 := Aside0.mk (Kd.R_below (rS HO_434000) hb); replace HO439 := Aside0.mk (Kd.N_below (nS HO439) hb); replace HO442 := Aside0.mk (Kd.N_below (nS HO442) hb); replace BK433 := kB (g := gb433) hb; replace HB := hB hb; (try clear hb); (try clear hb2); (try clear hk); (try clear hi)))
        go_roundg k1
        case measure => have := HK1.out; omega
        case rel => exact ⟨(wrap64 (x6_1 + 1)), fS, H', ⟨by have := HK1.out; omega⟩, ⟨rS HO_434000⟩, ⟨kS⟩, ⟨bS⟩⟩
       ·obtain rfl := Bool.eq_false_iff.mpr c18
        rw [if_neg nF] at H
        replace H := bN H
        obtain ⟨t444, A27, H⟩ := H
        replace H := bN H
        obtain ⟨t447, A28, H⟩ := H
        by_cases c29 : t447 = true
        ·subst c29
         rw [if_pos rfl] at H
         obtain ⟨y448, hy448⟩ : ∃ y_ : List (S41), y_ = (([(⟨t425, t428, (⟨t429, t430, t431, t432⟩ : S39)⟩ : S41)] : List (S41))) := ⟨_, rfl⟩
         replace H : ((impl_ObjectsOfBand.f k1 y448 t434 x6_1).bind fun t451 => (if (t451.length : Int) = 0 then (laws_FnTouches.l0 k1 t434 t435 (wrap64 (x6_1 + 1)) t425 t428 t429 t430 t431 t432) else (some false))) = some r := by first | (rw [hy448]; with_reducible exact H) | (have H2_ := (Option.bind_some _ _).symm.trans H; rw [hy448]; with_reducible exact H2_) | (have H2_ := (Option.bind_some _ _).symm.trans H; with_reducible exact H2_) | with_reducible exact H | (rw [hy448]; exact H) | exact H
         have Ny448 := Aside0.mk hy448
         clear hy448
         replace H := bN H
         obtain ⟨t451, A30, H⟩ := H
         by_cases c31 : (t451.length : Int) = 0
         ·rw [if_pos c31] at H
          have c31b0 : ((t451.length : Int) == 0) = true := beq_iff_eq.mpr c31
          have c31b1 : ((t451.length : Int) != 0) = false := bne_eq_false_iff_eq.mpr c31
          clear c31
          have H' := Aside0.mk H
          clear H
          have hz32 := cz6 BK433
          go_wp2_with (first | ((with_reducible refine gate_dst (N := 26) rfl ?_); (try (refine gG (by rfl) (by rfl) ?_; dsimp only)); refine Kd.N_lit k41 _ 41 ?hg (N' := 26) ?hd (xs := ([(⟨t425, t428, (⟨t429, t430, t431, t432⟩ : S39)⟩ : S41)] : List (S41))) (inner := [.slice Ao11 t425.length co11, .int .i64 t428, .int .i64 t429, .int .i64 t430, .int .i64 t431, .int .i64 t432]) (ok := (fun k_ => k_ ≠ gb433)) (okp := (fun k_ => k_ ≠ gb433)) ?hr ?hp (fun _ hk => hk) ((show ∀ k_, wr.heap.size ≤ k_ → (fun k_ => k_ ≠ gb433) k_ from fun k_ hk => Kd.freshB (g := gb433) kS k_ hk) _ (Nat.le_refl _)) (Below.refl _ _) (Nat.le_refl _) (by simp) ?_; (case hd => rfl); (case hg => rfl); (case hr => first | (go_simp; done) | (go_simp; rfl)); (case hp => exact (Reps.c6 (show Kd.FK k41 _ _ (⟨t425, t428, (⟨t429, t430, t431, t432⟩ : S39)⟩ : S41) [.slice Ao11 t425.length co11, .int .i64 t428, .int .i64 t429, .int .i64 t430, .int .i64 t431, .int .i64 t432] from (k41_mkF _ _ (⟨t425, t428, (⟨t429, t430, t431, t432⟩ : S39)⟩ : S41) (Kd.R_reads' (Kd.R_mono (ok' := (fun k_ => k_ ≠ gb433)) (Kd.R_types (HO_434000.out) BK433.out (by decide)) (fun k_ hk => hk.2))).2.1 (Kd.R_F (Kd.R_mono (ok' := (fun k_ => k_ ≠ gb433)) (Kd.R_types (HO_434000.out) BK433.out (by decide)) (fun k_ hk => hk.2))))) (Reps.none _ _))); intro v438 w33 ho34 hb hg_ hnew_; clear hg_ hnew_; (first | rw [← Ny437.out] at ho34 | (simp only [Int.reduceToNat] at ho34; rw [← Ny437.out] at ho34)); have HO439 := Aside0.mk (Kd.N_lower ho34 (below_size bS)); replace HO_434000 := Aside0.mk (Kd.R_below (rS HO_434000) hb); replace BK433 := kB (g := gb433) hb; replace HB := hB hb; clear hb ho34; obtain ⟨Ao35, co35, eo35⟩ := Kd.N_slice HO439.out; subst eo35) | ((with_reducible refine gC 56 ?_); refine cL (some 29) Try.func56 #[.slice Ao35 y437.length co35, .int .i64 t434, .int .i64 x6_1] ?_; (with_reducible refine (impl_RenderBand.calls k1 _ _ y437 t434 x6_1 t440 _ ?side1 ?side2 A15.out).mono ?_); (case side1 => exact cS (Kd.N_reads' HO439.out).2.2); (case side2 => exact (Kd.N_reads' HO439.out).2.1); rintro e w36 ⟨v441, rfl, ho0, hb⟩; refine ⟨_, rfl, ?_⟩; have HO442 := Aside0.mk (Kd.N_lower (Kd.N_mono (ok' := fun k_ => some k_ ≠ (.slice Ao11 t425.length co11 : Value).ownBlock ∧ some k_ ≠ (.slice Ao35 y437.length co35 : Value).ownBlock ∧ k_ ≠ gb433) (Kd.S_N (Kd.S_bound ho0)) (fun k_ hk_ => ⟨(Kd.fresh' (Kd.R_lt (rS HO_434000)) k_ hk_.2.1), (Kd.fresh' (Kd.N_lt (nS HO439)) k_ hk_.2.1), (Kd.freshB (g := gb433) kS k_ hk_.2.1)⟩)) (below_size bS)); replace HO_434000 := Aside0.mk (Kd.R_below (rS HO_434000) hb); replace HO439 := Aside0.mk (Kd.N_elder' (nS HO439) (Kd.S_base ho0) hb); replace BK433 := kB (g := gb433) hb; replace HB := hB hb; (try clear hb); (try clear hb2); (try clear hk); (try clear hi); (try clear ho0); obtain ⟨Ao37, co37, eo37⟩ := Kd.N_slice HO442.out; subst eo37; have hz38 := cz6 BK433) | (go_at_call 32; (with_reducible refine (impl_TouchesBand.calls k1 _ _ t425 t428 t429 t430 t431 t432 t434 x6_1 _ _ (cS (Kd.R_reads' HO_434000.out).2.2) ((Kd.R_reads' HO_434000.out).2.1) A17.out).mono ?_); rintro e w39 ⟨rfl, hb⟩; replace HO_434000 := Aside0.mk (Kd.R_below (rS HO_434000) hb); replace HO439 := Aside0.mk (Kd.N_below (nS HO439) hb); replace HO442 := Aside0.mk (Kd.N_below (nS HO442) hb); replace BK433 := kB (g := gb433) hb; replace HB := hB hb; (try clear hb); (try clear hb2); (try clear hk); (try clear hi)) | (go_at_call 53; (with_reducible refine (impl_WhiteRows.calls k1 t434 t444 _ A27.out).mono ?_); rintro e w40 ⟨v445, rfl, ho0, hb⟩; have HO446 := Aside0.mk (Kd.N_lower (Kd.N_mono (ok' := fun k_ => some k_ ≠ (.slice Ao11 t425.length co11 : Value).ownBlock ∧ some k_ ≠ (.slice Ao35 y437.length co35 : Value).ownBlock ∧ some k_ ≠ (.slice Ao37 t440.length co37 : Value).ownBlock ∧ k_ ≠ gb433) (Kd.S_N (Kd.S_bound ho0)) (fun k_ hk_ => ⟨(Kd.fresh' (Kd.R_lt (rS HO_434000)) k_ hk_.2.1), (Kd.fresh' (Kd.N_lt (nS HO439)) k_ hk_.2.1), (Kd.fresh' (Kd.N_lt (nS HO442)) k_ hk_.2.1), (Kd.freshB (g := gb433) kS k_ hk_.2.1)⟩)) (below_size bS)); replace HO_434000 := Aside0.mk (Kd.R_below (rS HO_434000) hb); replace HO439 := Aside0.mk (Kd.N_elder' (nS HO439) (Kd.S_base ho0) hb); replace HO442 := Aside0.mk (Kd.N_elder' (nS HO442) (Kd.S_base ho0) hb); replace BK433 := kB (g := gb433) hb; replace HB := hB hb; (try clear hb); (try clear hb2); (try clear hk); (try clear hi); (try clear ho0); obtain ⟨Ao41, co41, eo41⟩ := Kd.N_slice HO446.out; subst eo41) | (go_at_call 43; (with_reducible refine (impl_SameRows.calls k1 _ _ t440 _ _ t444 _ _ ?side1 ?side2 ?side3 ?side4 A28.out).mono ?_); (case side1 => exact cS (Kd.N_reads' HO442.out).2.2); (case side2 => exact (Kd.N_reads' HO442.out).2.1); (case side3 => exact cS (Kd.N_reads' HO446.out).2.2); (case side4 => exact (Kd.N_reads' HO446.out).2.1); rintro e w' ⟨rfl, ⟨nd, rfl⟩⟩; have hz42 := cz6 BK433) | ((with_reducible refine gate_dst (N := 48) rfl ?_); (try (refine gG (by rfl) (by rfl) ?_; dsimp only)); refine Kd.N_lit k41 _ 41 ?hg (N' := 48) ?hd (xs := ([(⟨t425, t428, (⟨t429, t430, t431, t432⟩ : S39)⟩ : S41)] : List (S41))) (inner := [.slice Ao11 t425.length co11, .int .i64 t428, .int .i64 t429, .int .i64 t430, .int .i64 t431, .int .i64 t432]) (ok := (fun k_ => some k_ ≠ (.slice Ao35 y437.length co35 : Value).ownBlock ∧ some k_ ≠ (.slice Ao37 t440.length co37 : Value).ownBlock ∧ some k_ ≠ (.slice Ao41 t444.length co41 : Value).ownBlock ∧ k_ ≠ gb433)) (okp := (fun k_ => some k_ ≠ (.slice Ao35 y437.length co35 : Value).ownBlock ∧ some k_ ≠ (.slice Ao37 t440.length co37 : Value).ownBlock ∧ some k_ ≠ (.slice Ao41 t444.length co41 : Value).ownBlock ∧ k_ ≠ gb433)) ?hr ?hp (fun _ hk => hk) ((show ∀ k_, w40.heap.size ≤ k_ → (fun k_ => some k_ ≠ (.slice Ao35 y437.length co35 : Value).ownBlock ∧ some k_ ≠ (.slice Ao37 t440.length co37 : Value).ownBlock ∧ some k_ ≠ (.slice Ao41 t444.length co41 : Value).ownBlock ∧ k_ ≠ gb433) k_ from fun k_ hk => ⟨Kd.fresh' (Kd.N_lt (nS HO439)) k_ hk, Kd.fresh' (Kd.N_lt (nS HO442)) k_ hk, Kd.fresh' (Kd.N_lt (nS HO446)) k_ hk, Kd.freshB (g := gb433) kS k_ hk⟩) _ (Nat.le_refl _)) (Below.refl _ _) (Nat.le_refl _) (by simp) ?_; (case hd => rfl); (case hg => rfl); (case hr => first | (go_simp; done) | (go_simp; rfl)); (case hp => exact (Reps.c6 (show Kd.FK k41 _ _ (⟨t425, t428, (⟨t429, t430, t431, t432⟩ : S39)⟩ : S41) [.slice Ao11 t425.length co11, .int .i64 t428, .int .i64 t429, .int .i64 t430, .int .i64 t431, .int .i64 t432] from (k41_mkF _ _ (⟨t425, t428, (⟨t429, t430, t431, t432⟩ : S39)⟩ : S41) (Kd.R_reads' (Kd.R_mono (ok' := (fun k_ => some k_ ≠ (.slice Ao35 y437.length co35 : Value).ownBlock ∧ some k_ ≠ (.slice Ao37 t440.length co37 : Value).ownBlock ∧ some k_ ≠ (.slice Ao41 t444.length co41 : Value).ownBlock ∧ k_ ≠ gb433)) (Kd.R_types (Kd.R_apart' (Kd.R_apart' (Kd.R_apart' (HO_434000.out) (Kd.N_typed HO439.out) (by decide)) (Kd.N_typed HO442.out) (by decide)) (Kd.N_typed HO446.out) (by decide)) BK433.out (by decide)) (fun k_ hk => ⟨hk.1.1.1.2, ⟨hk.1.1.2, ⟨hk.1.2, hk.2⟩⟩⟩))).2.1 (Kd.R_F (Kd.R_mono (ok' := (fun k_ => some k_ ≠ (.slice Ao35 y437.length co35 : Value).ownBlock ∧ some k_ ≠ (.slice Ao37 t440.length co37 : Value).ownBlock ∧ some k_ ≠ (.slice Ao41 t444.length co41 : Value).ownBlock ∧ k_ ≠ gb433)) (Kd.R_types (Kd.R_apart' (Kd.R_apart' (Kd.R_apart' (HO_434000.out) (Kd.N_typed HO439.out) (by decide)) (Kd.N_typed HO442.out) (by decide)) (Kd.N_typed HO446.out) (by decide)) BK433.out (by decide)) (fun k_ hk => ⟨hk.1.1.1.2, ⟨hk.1.1.2, ⟨hk.1.2, hk.2⟩⟩⟩))))) (Reps.none _ _))); intro v449 w43 ho44 hb hg_ hnew_; clear hg_ hnew_; (first | rw [← Ny448.out] at ho44 | (simp only [Int.reduceToNat] at ho44; rw [← Ny448.out] at ho44)); have HO450 := Aside0.mk (Kd.N_lower ho44 (below_size bS)); replace HO_434000 := Aside0.mk (Kd.R_below (rS HO_434000) hb); replace HO439 := Aside0.mk (Kd.N_elder' (nS HO439) (Kd.N_base ho44) hb); replace HO442 := Aside0.mk (Kd.N_elder' (nS HO442) (Kd.N_base ho44) hb); replace HO446 := Aside0.mk (Kd.N_elder' (nS HO446) (Kd.N_base ho44) hb); replace BK433 := kB (g := gb433) hb; replace HB := hB hb; clear hb ho44; obtain ⟨Ao45, co45, eo45⟩ := Kd.N_slice HO450.out; subst eo45) | (go_at_call 57; (with_reducible refine (impl_ObjectsOfBand.calls k1 _ _ y448 t434 x6_1 t451 _ ?side1 ?side2 A30.out).mono ?_); (case side1 => exact cS (Kd.N_reads' HO450.out).2.2); (case side2 => exact (Kd.N_reads' HO450.out).2.1); rintro e w46 ⟨v452, rfl, ho0, hb⟩; have HO453 := Aside0.mk (Kd.N_lower (Kd.N_mono (ok' := fun k_ => some k_ ≠ (.slice Ao11 t425.length co11 : Value).ownBlock ∧ some k_ ≠ (.slice Ao35 y437.length co35 : Value).ownBlock ∧ some k_ ≠ (.slice Ao37 t440.length co37 : Value).ownBlock ∧ some k_ ≠ (.slice Ao41 t444.length co41 : Value).ownBlock ∧ some k_ ≠ (.slice Ao45 y448.length co45 : Value).ownBlock ∧ k_ ≠ gb433) (Kd.S_N (Kd.S_bound ho0)) (fun k_ hk_ => ⟨(Kd.fresh' (Kd.R_lt (rS HO_434000)) k_ hk_.2.1), (Kd.fresh' (Kd.N_lt (nS HO439)) k_ hk_.2.1), (Kd.fresh' (Kd.N_lt (nS HO442)) k_ hk_.2.1), (Kd.fresh' (Kd.N_lt (nS HO446)) k_ hk_.2.1), (Kd.fresh' (Kd.N_lt (nS HO450)) k_ hk_.2.1), (Kd.freshB (g := gb433) kS k_ hk_.2.1)⟩)) (below_size bS)); replace HO_434000 := Aside0.mk (Kd.R_below (rS HO_434000) hb); replace HO439 := Aside0.mk (Kd.N_elder' (nS HO439) (Kd.S_base ho0) hb); replace HO442 := Aside0.mk (Kd.N_elder' (nS HO442) (Kd.S_base ho0) hb); replace HO446 := Aside0.mk (Kd.N_elder' (nS HO446) (Kd.S_base ho0) hb); replace HO450 := Aside0.mk (Kd.N_elder' (nS HO450) (Kd.S_base ho0) hb); replace BK433 := kB (g := gb433) hb; replace HB := hB hb; (try clear hb); (try clear hb2); (try clear hk); (try clear hi); (try clear ho0); obtain ⟨Ao47, co47, eo47⟩ := Kd.N_slice HO453.out; subst eo47))
          go_roundg k1
          case measure => have := HK1.out; omega
          case rel => exact ⟨(wrap64 (x6_1 + 1)), fS, H', ⟨by have := HK1.out; omega⟩, ⟨rS HO_434000⟩, ⟨kS⟩, ⟨bS⟩⟩
         ·rw [if_neg c31] at H; exact absurd ((Option.some.inj H).trans hT) (by decide)
        ·obtain rfl := Bool.eq_false_iff.mpr c29
         rw [if_neg nF] at H
         exact absurd ((Option.some.inj H).trans hT) (by decide)
      ·rw [if_neg c16] at H; exact absurd ((Option.some.inj H).trans hT) (by decide)
     ·obtain rfl := Option.some.inj H
      (try clear hT)
      go_wp2
      go_ret
      exact ⟨eS, bS⟩
  ·rw [if_neg c8] at H; exact absurd ((Option.some.inj H).trans hT) (by decide)

end Go.Proofs.Ytimpejidlnjhlaa.QFnTouches
