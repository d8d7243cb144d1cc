-- Made out of the translation by a program of this session (a changed copy of the print). Not trusted: Lean checks it.
import Derived.Test.YtigodjcnkgebaaaQFnMemoryx0
import Derived.Test.YtigodjcnkgebaaaQFnMemoryx2
import Derived.Test.YtigodjcnkgebaaaQFnMemoryx3
import Derived.Test.YtigodjcnkgebaaaQFnMemoryx8
namespace Go.Proofs.Ytigodjcnkgebaaa.QFnMemory
open Go.RowKit Go.Proofs.YtigodjcnkgebaaaW.PrintWords Go.Proofs.YtigodjcnkgebaaaW.PrintLast Go.Proofs.YtigodjcnkgebaaaW.PrintMore
attribute [local go_sem] max2_int min2_int max_two min_two max_three min_three max_four min_four   -- for this text's walks alone
set_option linter.unusedVariables false
set_option linter.unusedSimpArgs false
set_option maxHeartbeats 8000000
set_option maxRecDepth 100000

/-! ### impl_RenderBand: function 60 -/
mutual
def impl_RenderBand.j0 : Nat → List (S45) → Int → Int → Bool → Option ((List (List Int)))
 | 0, _, _, _, _ => none
 | k + 1, x0, x1, x2, x20 => if x20 = true then (some ([] : List (List Int))) else ((impl_WhiteRows.f k x1).bind fun t424 => (impl_RenderBand.l0 k x1 x2 t424 x0 (x0.length : Int) 0))
def impl_RenderBand.l0 : Nat → Int → Int → List (List Int) → List (S45) → Int → Int → Option ((List (List Int)))
 | 0, _, _, _, _, _, _ => none
 | k + 1, x1, x2, x7, x23, x24, x25 => if x25 < x24 then (if 0 ≤ x25 then (if x25 < (x23.length : Int) then ((impl_ObjectOk.f k ((rd_T45 x23 x25).f0) ((rd_T45 x23 x25).f1) ((rd_T45 x23 x25).f2.f0) ((rd_T45 x23 x25).f2.f1) ((rd_T45 x23 x25).f2.f2) ((rd_T45 x23 x25).f2.f3)).bind fun t429 => (if t429 = true then ((impl_paint.f k x7 (wrap64 (x2 * x1)) ((rd_T45 x23 x25).f0) ((rd_T45 x23 x25).f1) ((rd_T45 x23 x25).f2.f0) ((rd_T45 x23 x25).f2.f1) ((rd_T45 x23 x25).f2.f2) ((rd_T45 x23 x25).f2.f3)).bind fun t430 => (impl_RenderBand.l0 k x1 x2 t430 x23 x24 (wrap64 (x25 + 1)))) else (impl_RenderBand.l0 k x1 x2 x7 x23 x24 (wrap64 (x25 + 1))))) else (none)) else (none)) else (some x7)
end
def impl_RenderBand.f (k : Nat) (l0 : List (S45)) (a1 : Int) (a2 : Int) : Option ((List (List Int))) := (impl_IsHeight.f a1).bind fun t421 => (if t421 = true then ((impl_CountBands.f a1).bind fun t422 => ((impl_within.f a2 0 (wrap64 (t422 - 1))).bind fun t423 => (impl_RenderBand.j0 k l0 a1 a2 (!t423)))) else (impl_RenderBand.j0 k l0 a1 a2 true))
theorem impl_RenderBand.calls (k : Nat) (A0 : Option Addr) (c0 : Nat) (l0 : List (S45)) (a1 : Int) (a2 : Int) (r : List (List Int)) (w : World) (hr0 : Kd.C k45 w A0 l0.length l0) (hc0 : l0.length ≤ c0) (h : impl_RenderBand.f k l0 a1 a2 = some r) :
  Calls Try.prog 60 #[.slice A0 l0.length c0, .int .i64 a1, .int .i64 a2] w fun e w' => ∃ v0_ : Value, e = .returned (v0_) ∧ Kd.S (Kd.slice 3 (Kd.int .i64)) 71 w' w.heap.size (fun _ => True) v0_ r ∧ Below w.heap.size w w' := by
 have hu45 := Try.underlying45
 have HR0 := Aside0.mk hr0
 have HC0 := Aside0.mk hc0
 clear hr0 hc0
 have HB := Aside0.mk (Below.refl w.heap.size w)
 have H : ((impl_IsHeight.f a1).bind fun t421 => (if t421 = true then ((impl_CountBands.f a1).bind fun t422 => ((impl_within.f a2 0 (wrap64 (t422 - 1))).bind fun t423 => (impl_RenderBand.j0 k l0 a1 a2 (!t423)))) else (impl_RenderBand.j0 k l0 a1 a2 true))) = some r := h
 clear h
 have HC4 := Aside0.mk H
 clear H
 go_enter Try.func60, Try.ntmps60
 go_upto_region 1 with (fail)
 go_cut [20] (fun v20 wc => ∃ (kq : Nat) (x20_3 : Bool), v20 = .bool x20_3 ∧ Aside0 (impl_RenderBand.j0 kq l0 a1 a2 x20_3 = some r) ∧ Aside0 (kq ≤ k) ∧ Aside0 (Below w.heap.size w wc))
 case first =>
  have H := HC4.out
  clear HC4
  replace H := bN H
  obtain ⟨t421, A5, H⟩ := H
  by_cases c6 : t421 = true
  ·subst c6
   rw [if_pos rfl] at H
   replace H := bN H
   obtain ⟨t422, A7, H⟩ := H
   replace H := bN H
   obtain ⟨t423, A8, H⟩ := H
   have H' := Aside0.mk H
   clear H
   go_wp2_with (first | ((with_reducible refine gC 20 ?_); refine cL (some 11) Try.func20 #[.int .i64 a1] ?_; (with_reducible refine (impl_IsHeight.calls a1 _ _ A5.out).mono ?_); rintro e w' ⟨rfl, ⟨nd, rfl⟩⟩; refine ⟨_, rfl, ?_⟩) | (go_at_call 21; (with_reducible refine (impl_CountBands.calls a1 t422 _ A7.out).mono ?_); rintro e w' ⟨rfl, ⟨nd, rfl⟩⟩) | (go_at_call 126; (with_reducible refine (impl_within.calls a2 0 (wrap64 (t422 - 1)) t423 _ A8.out).mono ?_); rintro e w' ⟨rfl, ⟨nd, rfl⟩⟩))
   go_meet
   case rel => exact ⟨_, (!t423), (by first | rfl | (simp; done) | (simp [*]; done)), H', ⟨by first | omega | exact Nat.le_refl _⟩, ⟨bS⟩⟩
  ·obtain rfl := Bool.eq_false_iff.mpr c6
   rw [if_neg nF] at H
   have H' := Aside0.mk H
   clear H
   go_wp2_with (first | ((with_reducible refine gC 20 ?_); refine cL (some 11) Try.func20 #[.int .i64 a1] ?_; (with_reducible refine (impl_IsHeight.calls a1 _ _ A5.out).mono ?_); rintro e w' ⟨rfl, ⟨nd, rfl⟩⟩; refine ⟨_, rfl, ?_⟩))
   go_meet
   case rel => exact ⟨_, (true), (by first | rfl | (simp; done) | (simp [*]; done)), H', ⟨by first | omega | exact Nat.le_refl _⟩, ⟨bS⟩⟩
 case rest =>
  clear HC4
  try clear c2
  try clear p2
  try clear c6
  try clear p6
  obtain ⟨kq, x20_3, rfl, HA, HJ3, HB⟩ := hcut
  cases kq with
  | zero => exact absurd HA.out (by simp [impl_RenderBand.j0])
  | succ kj3 =>
   have H := HA.out
   clear HA
   simp only [impl_RenderBand.j0] at H
   by_cases c9 : x20_3 = true
   ·subst c9
    rw [if_pos rfl] at H
    obtain rfl := Option.some.inj H
    simp only [Option.some.injEq, Prod.mk.injEq] at H
    obtain ⟨rfl⟩ := H
    go_wp2
    go_ret
    exact ⟨_, eS, by first | exact Kd.S_nil _ _ _ _ _ | exact Kd.N_nil _ _ _ _ _ | exact Kd.V_nil _ _ _ _ _ | exact Kd.Q_nil _ _ _ _ _ | exact Kd.R_nil _ _ _ _ _, bS⟩
   ·obtain rfl := Bool.eq_false_iff.mpr c9
    rw [if_neg nF] at H
    replace H := bN H
    obtain ⟨t424, A10, H⟩ := H
    have H' := Aside0.mk H
    clear H
    go_wp2_with (first | ((with_reducible refine gC 74 ?_); refine cL (some 22) Try.func74 #[.int .i64 a1] ?_; (with_reducible refine (impl_WhiteRows.calls kj3 a1 t424 _ A10.out).mono ?_); rintro e w11 ⟨v425, rfl, ho0, hb⟩; refine ⟨_, rfl, ?_⟩; have HO426 := Aside0.mk (Kd.S_lower ho0 (below_size bS)); replace HB := hB hb; (try clear hb); (try clear hb2); (try clear hk); (try clear hi); (try clear ho0)))
    go_loopg [25] kj3 (fun kq v25 w' => ∃ (x7_2 : List (List Int)) (x25_2 : Int), v25 = .int .i64 x25_2 ∧ Aside0 (impl_RenderBand.l0 kq a1 a2 x7_2 l0 (l0.length : Int) x25_2 = some r) ∧ Aside0 (kq ≤ kj3) ∧ Aside0 (Kd.S (Kd.slice 3 (Kd.int .i64)) 71 w' w.heap.size (fun _ => True) v425 x7_2) ∧ Aside0 (Below w.heap.size w w'))
    case atStart => exact ⟨(t424), (0), (by first | rfl | (simp; done) | (simp [*]; done)), H', ⟨Nat.le_refl _⟩, ⟨by (with_reducible repeat (first | apply Kd.S_alloc | apply Kd.S_drewN | apply Kd.S_drew)); exact HO426.out⟩, ⟨bS⟩⟩
    case round =>
     clear H'
     try clear c2
     try clear p2
     try clear c6
     try clear p6
     try clear c7
     try clear c9
     try clear p2
     try clear p6
     obtain ⟨x7_2, x25_2, rfl, HA, HK2, HO_7, HB⟩ := hrel
     cases gk with
     | zero => exact absurd HA.out (by simp [impl_RenderBand.l0])
     | succ k2 =>
      have H := HA.out
      clear HA
      simp only [impl_RenderBand.l0] at H
      by_cases c12 : x25_2 < (l0.length : Int)
      ·rw [if_pos c12] at H
       have c12b0 : decide (x25_2 < (l0.length : Int)) = true := decide_eq_true c12
       clear c12
       by_cases c13 : 0 ≤ x25_2
       ·rw [if_pos c13] at H
        have c13b0 : decide (0 ≤ x25_2) = true := decide_eq_true c13
        clear c13
        by_cases c14 : x25_2 < (l0.length : Int)
        ·rw [if_pos c14] at H
         have c14b0 : decide (x25_2 < (l0.length : Int)) = true := decide_eq_true c14
         clear c14
         replace H := bN H
         obtain ⟨t429, A15, H⟩ := H
         by_cases c16 : t429 = true
         ·subst c16
          rw [if_pos rfl] at H
          replace H := bN H
          obtain ⟨t430, A17, H⟩ := H
          have H' := Aside0.mk H
          clear H
          have p427 : 0 ≤ (x25_2 : Int) := of_decide_eq_true (by first | (with_reducible assumption) | assumption)
          have q427 : x25_2 < (l0.length : Int) := of_decide_eq_true (by first | (with_reducible assumption) | assumption)
          obtain ⟨ad427, A427_0, c427_0, e427, hx427_0, hx427_1, hx427_2, hx427_3, hx427_4, hx427_5, hl427_0, hi427_0⟩ := at_T45 HR0.out x25_2 p427 q427
          cases e427
          replace hx427_0 := (HB.out.cell (World.block_lt_of_cell? w _ hx427_0)).trans hx427_0
          replace hx427_1 := (HB.out.cell (World.block_lt_of_cell? w _ hx427_1)).trans hx427_1
          replace hx427_2 := (HB.out.cell (World.block_lt_of_cell? w _ hx427_2)).trans hx427_2
          replace hx427_3 := (HB.out.cell (World.block_lt_of_cell? w _ hx427_3)).trans hx427_3
          replace hx427_4 := (HB.out.cell (World.block_lt_of_cell? w _ hx427_4)).trans hx427_4
          replace hx427_5 := (HB.out.cell (World.block_lt_of_cell? w _ hx427_5)).trans hx427_5
          have HR427_0 := Aside0.mk hi427_0
          have HC427_0 := Aside0.mk hl427_0
          clear hi427_0 hl427_0
          replace p427 := eq_true p427
          replace q427 := eq_true q427
          go_wp2_with (first | ((with_reducible refine gD 9 ?_); refine bxE #[.slice none 0 0, .int .i64 0, .int .i64 0, .int .i64 0, .int .i64 0, .int .i64 0] 45 ?_; intro gb428 hg w18 BK428 hb; have GW428 := gE hg; have GE428 := gE hg; replace HO_7 := Aside0.mk (Kd.S_below (by (with_reducible repeat (first | apply Kd.S_alloc | apply Kd.S_drewN | apply Kd.S_drew)); exact HO_7.out) hb); replace HB := hB hb; clear hb hg; have hz19 := cz6 BK428) | ((with_reducible refine gC 87 ?_); refine cL (some 30) Try.func87 #[.agg #[.slice A427_0 ((rd_T45 l0 x25_2).f0).length c427_0, .int .i64 ((rd_T45 l0 x25_2).f1), .int .i64 ((rd_T45 l0 x25_2).f2.f0), .int .i64 ((rd_T45 l0 x25_2).f2.f1), .int .i64 ((rd_T45 l0 x25_2).f2.f2), .int .i64 ((rd_T45 l0 x25_2).f2.f3)]] ?_; (with_reducible refine (impl_ObjectOk.calls k2 _ _ ((rd_T45 l0 x25_2).f0) ((rd_T45 l0 x25_2).f1) ((rd_T45 l0 x25_2).f2.f0) ((rd_T45 l0 x25_2).f2.f1) ((rd_T45 l0 x25_2).f2.f2) ((rd_T45 l0 x25_2).f2.f3) _ _ ?side1 ?side2 A15.out).mono ?_); (case side1 => exact Kd.C_below HR427_0.out bS); (case side2 => exact HC427_0.out); rintro e w20 ⟨rfl, hb⟩; refine ⟨_, rfl, ?_⟩; replace HO_7 := Aside0.mk (Kd.S_below (by (with_reducible repeat (first | apply Kd.S_alloc | apply Kd.S_drewN | apply Kd.S_drew)); exact (Kd.S_mono (Kd.S_far (p := ⟨gb428, 5, none⟩) (Kd.S_far (p := ⟨gb428, 4, none⟩) (Kd.S_far (p := ⟨gb428, 3, none⟩) (Kd.S_far (p := ⟨gb428, 2, none⟩) (Kd.S_far (p := ⟨gb428, 1, none⟩) (Kd.S_far (p := ⟨gb428, 0, none⟩) (Kd.S_types HO_7.out BK428.out (by decide)) (fun _ hk => hk.2) (.slice A427_0 ((rd_T45 l0 x25_2).f0).length c427_0)) (fun _ hk => hk.2) (.int .i64 ((rd_T45 l0 x25_2).f1))) (fun _ hk => hk.2) (.int .i64 ((rd_T45 l0 x25_2).f2.f0))) (fun _ hk => hk.2) (.int .i64 ((rd_T45 l0 x25_2).f2.f1))) (fun _ hk => hk.2) (.int .i64 ((rd_T45 l0 x25_2).f2.f2))) (fun _ hk => hk.2) (.int .i64 ((rd_T45 l0 x25_2).f2.f3))) (fun _ h_ => h_.1))) hb); replace BK428 := Aside0.mk (blk_below (g := gb428) (o := .cells #[.slice A427_0 ((rd_T45 l0 x25_2).f0).length c427_0, .int .i64 ((rd_T45 l0 x25_2).f1), .int .i64 ((rd_T45 l0 x25_2).f2.f0), .int .i64 ((rd_T45 l0 x25_2).f2.f1), .int .i64 ((rd_T45 l0 x25_2).f2.f2), .int .i64 ((rd_T45 l0 x25_2).f2.f3)] 45 (0, 0)) kS hb); replace HB := hB hb; (try clear hb); (try clear hb2); (try clear hk); (try clear hi); have hz21 := cz6 BK428; obtain ⟨Ao22, co22, eo22⟩ := Kd.S_slice HO_7.out; subst eo22) | ((with_reducible refine gC 75 ?_); refine cL (some 36) Try.func75 #[.slice Ao22 x7_2.length co22, .int .i64 (wrap64 (a2 * a1)), .agg #[.slice A427_0 ((rd_T45 l0 x25_2).f0).length c427_0, .int .i64 ((rd_T45 l0 x25_2).f1), .int .i64 ((rd_T45 l0 x25_2).f2.f0), .int .i64 ((rd_T45 l0 x25_2).f2.f1), .int .i64 ((rd_T45 l0 x25_2).f2.f2), .int .i64 ((rd_T45 l0 x25_2).f2.f3)]] ?_; (with_reducible refine (impl_paint.calls k2 (fun k_ => w.heap.size ≤ k_ ∧ ∃ q_, q_ ∈ 71 :: (Kd.slice 3 (Kd.int .i64)).E ∧ ∃ c_, w20.heap[k_]? = some (.cells c_ q_ (0, 0))) (.slice Ao22 x7_2.length co22) x7_2 (wrap64 (a2 * a1)) _ _ ((rd_T45 l0 x25_2).f0) ((rd_T45 l0 x25_2).f1) ((rd_T45 l0 x25_2).f2.f0) ((rd_T45 l0 x25_2).f2.f1) ((rd_T45 l0 x25_2).f2.f2) ((rd_T45 l0 x25_2).f2.f3) t430 w _ ?side1 ?side2 ?side3 ?side4 A17.out).mono ?_); (case side1 => repeat (first | (with_reducible first | exact HB.out | apply below_alloc | apply pw_below_drewN | apply below_drew1 | refine below_set ?_ GE428.out) | exact HB.out)); (case side2 => (with_reducible repeat (first | apply Kd.S_alloc | apply Kd.S_drewN | apply Kd.S_drew)); exact Kd.S_mono (Kd.S_bound HO_7.out) (fun k_ h_ => ⟨h_.2.1, h_.2.2.2⟩)); (case side3 => exact Kd.C_kept_came k171_heap HR427_0.out bS (fun k_ hs_ => (fun e_ => e_.1) hs_)); (case side4 => exact HC427_0.out); rintro e w23 ⟨rfl, hy0, hb, hkp⟩; refine ⟨_, rfl, ?_⟩; replace HO_7 := Aside0.mk (Kd.S_mono hy0 (fun _ _ => trivial)); replace BK428 := Aside0.mk (blk_kept (g := gb428) kS hkp (fun hs_ => (fun e_ => typed_one (by exact BK428.out) e_.2 (by decide)) hs_)); replace HB := Aside0.mk (hb); (try clear hb); (try clear hkp); (try clear hy0)))
          go_roundg k2
          case measure => have := HJ3.out; have := HK2.out; omega
          case rel => exact ⟨(t430), (wrap64 (x25_2 + 1)), (by first | rfl | (simp; done) | (simp [*]; done)), H', ⟨by have := HJ3.out; have := HK2.out; omega⟩, ⟨by (with_reducible repeat (first | apply Kd.S_alloc | apply Kd.S_drewN | apply Kd.S_drew)); exact HO_7.out⟩, ⟨bS⟩⟩
         ·obtain rfl := Bool.eq_false_iff.mpr c16
          rw [if_neg nF] at H
          have H' := Aside0.mk H
          clear H
          have p427 : 0 ≤ (x25_2 : Int) := of_decide_eq_true (by first | (with_reducible assumption) | assumption)
          have q427 : x25_2 < (l0.length : Int) := of_decide_eq_true (by first | (with_reducible assumption) | assumption)
          obtain ⟨ad427, A427_0, c427_0, e427, hx427_0, hx427_1, hx427_2, hx427_3, hx427_4, hx427_5, hl427_0, hi427_0⟩ := at_T45 HR0.out x25_2 p427 q427
          cases e427
          replace hx427_0 := (HB.out.cell (World.block_lt_of_cell? w _ hx427_0)).trans hx427_0
          replace hx427_1 := (HB.out.cell (World.block_lt_of_cell? w _ hx427_1)).trans hx427_1
          replace hx427_2 := (HB.out.cell (World.block_lt_of_cell? w _ hx427_2)).trans hx427_2
          replace hx427_3 := (HB.out.cell (World.block_lt_of_cell? w _ hx427_3)).trans hx427_3
          replace hx427_4 := (HB.out.cell (World.block_lt_of_cell? w _ hx427_4)).trans hx427_4
          replace hx427_5 := (HB.out.cell (World.block_lt_of_cell? w _ hx427_5)).trans hx427_5
          have HR427_0 := Aside0.mk hi427_0
          have HC427_0 := Aside0.mk hl427_0
          clear hi427_0 hl427_0
          replace p427 := eq_true p427
          replace q427 := eq_true q427
          go_wp2_with (first | ((with_reducible refine gD 9 ?_); refine bxE #[.slice none 0 0, .int .i64 0, .int .i64 0, .int .i64 0, .int .i64 0, .int .i64 0] 45 ?_; intro gb428 hg w24 BK428 hb; have GW428 := gE hg; have GE428 := gE hg; replace HO_7 := Aside0.mk (Kd.S_below (by (with_reducible repeat (first | apply Kd.S_alloc | apply Kd.S_drewN | apply Kd.S_drew)); exact HO_7.out) hb); replace HB := hB hb; clear hb hg; have hz25 := cz6 BK428) | ((with_reducible refine gC 87 ?_); refine cL (some 30) Try.func87 #[.agg #[.slice A427_0 ((rd_T45 l0 x25_2).f0).length c427_0, .int .i64 ((rd_T45 l0 x25_2).f1), .int .i64 ((rd_T45 l0 x25_2).f2.f0), .int .i64 ((rd_T45 l0 x25_2).f2.f1), .int .i64 ((rd_T45 l0 x25_2).f2.f2), .int .i64 ((rd_T45 l0 x25_2).f2.f3)]] ?_; (with_reducible refine (impl_ObjectOk.calls k2 _ _ ((rd_T45 l0 x25_2).f0) ((rd_T45 l0 x25_2).f1) ((rd_T45 l0 x25_2).f2.f0) ((rd_T45 l0 x25_2).f2.f1) ((rd_T45 l0 x25_2).f2.f2) ((rd_T45 l0 x25_2).f2.f3) _ _ ?side1 ?side2 A15.out).mono ?_); (case side1 => exact Kd.C_below HR427_0.out bS); (case side2 => exact HC427_0.out); rintro e w26 ⟨rfl, hb⟩; refine ⟨_, rfl, ?_⟩; replace HO_7 := Aside0.mk (Kd.S_below (by (with_reducible repeat (first | apply Kd.S_alloc | apply Kd.S_drewN | apply Kd.S_drew)); exact (Kd.S_mono (Kd.S_far (p := ⟨gb428, 5, none⟩) (Kd.S_far (p := ⟨gb428, 4, none⟩) (Kd.S_far (p := ⟨gb428, 3, none⟩) (Kd.S_far (p := ⟨gb428, 2, none⟩) (Kd.S_far (p := ⟨gb428, 1, none⟩) (Kd.S_far (p := ⟨gb428, 0, none⟩) (Kd.S_types HO_7.out BK428.out (by decide)) (fun _ hk => hk.2) (.slice A427_0 ((rd_T45 l0 x25_2).f0).length c427_0)) (fun _ hk => hk.2) (.int .i64 ((rd_T45 l0 x25_2).f1))) (fun _ hk => hk.2) (.int .i64 ((rd_T45 l0 x25_2).f2.f0))) (fun _ hk => hk.2) (.int .i64 ((rd_T45 l0 x25_2).f2.f1))) (fun _ hk => hk.2) (.int .i64 ((rd_T45 l0 x25_2).f2.f2))) (fun _ hk => hk.2) (.int .i64 ((rd_T45 l0 x25_2).f2.f3))) (fun _ h_ => h_.1))) hb); replace BK428 := Aside0.mk (blk_below (g := gb428) (o := .cells #[.slice A427_0 ((rd_T45 l0 x25_2).f0).length c427_0, .int .i64 ((rd_T45 l0 x25_2).f1), .int .i64 ((rd_T45 l0 x25_2).f2.f0), .int .i64 ((rd_T45 l0 x25_2).f2.f1), .int .i64 ((rd_T45 l0 x25_2).f2.f2), .int .i64 ((rd_T45 l0 x25_2).f2.f3)] 45 (0, 0)) kS hb); replace HB := hB hb; (try clear hb); (try clear hb2); (try clear hk); (try clear hi)))
          go_roundg k2
          case measure => have := HJ3.out; have := HK2.out; omega
          case rel => exact ⟨(x7_2), (wrap64 (x25_2 + 1)), (by first | rfl | (simp; done) | (simp [*]; done)), H', ⟨by have := HJ3.out; have := HK2.out; omega⟩, ⟨by (with_reducible repeat (first | apply Kd.S_alloc | apply Kd.S_drewN | apply Kd.S_drew)); exact HO_7.out⟩, ⟨bS⟩⟩
        ·rw [if_neg c14] at H
         exact absurd H (by simp)
       ·rw [if_neg c13] at H
        exact absurd H (by simp)
      ·rw [if_neg c12] at H
       have c12b0 : decide (x25_2 < (l0.length : Int)) = false := decide_eq_false c12
       clear c12
       obtain rfl := Option.some.inj H
       simp only [Option.some.injEq, Prod.mk.injEq] at H
       obtain ⟨rfl⟩ := H
       go_wp2
       go_ret
       exact ⟨_, eS, by (with_reducible repeat (first | apply Kd.S_alloc | apply Kd.S_drewN | apply Kd.S_drew)); exact HO_7.out, bS⟩

/-! ### slices_Clone_int_int: function 173 -/
def slices_Clone_int_int.f (l0 : List Int) : Option (List Int) := (some (([] : List Int) : List Int)).bind fun y431 => (if y431.length + l0.length < 17592186044416 then (some (y431 ++ l0)) else (none))
theorem slices_Clone_int_int.calls (A0 : Option Addr) (c0 : Nat) (l0 : List Int) (r : List Int) (w : World) (hr0 : Kd.C (Kd.int .i64) w A0 l0.length l0) (hc0 : l0.length ≤ c0) (h : slices_Clone_int_int.f l0 = some r) :
  Calls Try.prog 173 #[.slice A0 l0.length c0] w fun e w' => ∃ v0_ : Value, e = .returned (v0_) ∧ Kd.R (Kd.int .i64) 3 w' w.heap.size (fun _ => True) v0_ r ∧ Below w.heap.size w w' := by
 obtain _ | A0 := A0
 ·have hl0 : l0 = [] := by
   rcases Nat.eq_zero_or_pos l0.length with h0 | h0
   ·exact List.eq_nil_of_length_eq_zero h0
   ·obtain ⟨ad, e, _⟩ := hr0.2.2 h0
    cases e
  subst hl0
  have hr_ : r = [] := by
   have h_ := h
   simp [slices_Clone_int_int.f] at h_
   first | exact h_ | exact h_.symm
  subst hr_
  have he_ : ∀ w : World, (binOp .eql 71 (.slice none 0 c0) (.slice none 0 0)).run Try.prog w = .ok (.bool true) w := fun _ => rfl
  go_enter Try.func173, Try.ntmps173
  go_wp2
  go_ret
  exact ⟨_, rfl, Kd.R_nil _ _ _ _ _, Below.refl _ _⟩
 have he_ : ∀ w : World, (binOp .eql 71 (.slice (some A0) l0.length c0) (.slice none 0 0)).run Try.prog w = .ok (.bool false) w := fun _ => rfl
 have HR0 := Aside0.mk hr0
 have HC0 := Aside0.mk hc0
 clear hr0 hc0
 have HB := Aside0.mk (Below.refl w.heap.size w)
 have H : ((some (([] : List Int) : List Int)).bind fun y431 => (if y431.length + l0.length < 17592186044416 then (some (y431 ++ l0)) else (none))) = some r := h
 clear h
 obtain ⟨y431, hy431⟩ : ∃ y_ : List Int, y_ = (([] : List Int)) := ⟨_, rfl⟩
 replace H : (if y431.length + l0.length < 17592186044416 then (some (y431 ++ l0)) else (none)) = some r := by first | (rw [hy431]; with_reducible exact H) | (have H2_ := (Option.bind_some _ _).symm.trans H; rw [hy431]; with_reducible exact H2_) | (have H2_ := (Option.bind_some _ _).symm.trans H; with_reducible exact H2_) | with_reducible exact H | (rw [hy431]; exact H) | exact H
 have Ny431 := Aside0.mk hy431
 clear hy431
 by_cases c2 : y431.length + l0.length < 17592186044416
 ·rw [if_pos c2] at H
  have LMc2 := Aside0.mk c2
  clear c2
  obtain ⟨y434, hy434⟩ : ∃ y_ : List Int, y_ = (y431 ++ l0) := ⟨_, rfl⟩
  replace H : (some y434) = some r := by first | (rw [hy434]; with_reducible exact H) | (have H2_ := (Option.bind_some _ _).symm.trans H; rw [hy434]; with_reducible exact H2_) | (have H2_ := (Option.bind_some _ _).symm.trans H; with_reducible exact H2_) | with_reducible exact H | (rw [hy434]; exact H) | exact H
  have Ny434 := Aside0.mk hy434
  clear hy434
  obtain rfl := Option.some.inj H
  simp only [Option.some.injEq, Prod.mk.injEq] at H
  obtain ⟨rfl⟩ := H
  go_enter Try.func173, Try.ntmps173
  go_wp2_with (first | ((with_reducible refine gate_dst (N := 5) rfl ?_); refine Kd.R_lit (Kd.int .i64) _ 3 ?hg (N := 5) ?hd (xs := ([] : List Int)) (inner := []) (ok := fun _ => True) (okp := fun _ => True) ?hr ?hp (fun _ hk => hk) trivial (Below.refl _ _) (Nat.le_refl _) (by simp) ?_; (case hd => rfl); (case hg => rfl); (case hr => first | (go_simp; done) | (go_simp; rfl)); (case hp => exact (Reps.none _ _)); intro v432 w3 ho4 hb hg_ hnew_; clear hg_ hnew_; (first | rw [← Ny431.out] at ho4 | (simp only [Int.reduceToNat] at ho4; rw [← Ny431.out] at ho4)); have HO433 := Aside0.mk (Kd.R_lower ho4 (below_size bS)); replace HB := hB hb; clear hb ho4) | ((with_reducible refine gate_builtin (b := .append) (xs := #[.tmp 5, .tmp 6]) rfl ?_); at_builtin; refine Kd.R_append_rows (Kd.int .i64) (w0 := w) w.heap.size rfl (.tmp 5) (.tmp 6) 71 3 (.int .i64 0) 8 rfl Try.underlying71 info3 rfl (by decide) (by omega) v432 y431 l0 _ _ _ (fun _ => True) (fun _ => False) rfl rfl ?aO ?aR (fun _ _ h => h) (fun _ h => h.elim) ?aF ?aB ?aS ?aL ?_; (case aR => exact cS (Kd.C_below HR0.out HB.out)); (case aB => exact bS); (case aF => exact (fun _ _ => trivial)); (case aO => exact (rS HO433)); (case aS => exact (below_size bS)); (case aL => have := LMc2.out; omega); intro v435 w5 ho hb hg hat; rw [← Ny434.out] at ho; have HO436 := Aside0.mk (ho); replace HB := Aside0.mk (hb); clear HO433; clear ho hb hg hat))
  go_ret
  exact ⟨_, eS, by (with_reducible repeat (first | apply Kd.R_alloc | apply Kd.R_drewN | apply Kd.R_drew)); exact HO436.out, bS⟩
 ·rw [if_neg c2] at H
  exact absurd H (by simp)

/-! ### impl_copyRows: function 125 -/
def impl_copyRows.l0 : Nat → List (List Int) → List (List Int) → Int → Int → Option ((List (List Int)))
 | 0, _, _, _, _ => none
 | k + 1, x3, x6, x7, x8 => if x8 < x7 then (if 0 ≤ x8 then (if x8 < (x6.length : Int) then ((slices_Clone_int_int.f (rd_L6 x6 x8)).bind fun t438 => (if x3.length < 5864062014805 then (impl_copyRows.l0 k (x3 ++ [t438]) x6 x7 (wrap64 (x8 + 1))) else (none))) else (none)) else (none)) else (some x3)
def impl_copyRows.f (k : Nat) (l0 : List (List Int)) : Option ((List (List Int))) := impl_copyRows.l0 k ([] : List (List Int)) l0 (l0.length : Int) 0
theorem impl_copyRows.calls (k : Nat) (A0 : Option Addr) (c0 : Nat) (l0 : List (List Int)) (r : List (List Int)) (w : World) (hr0 : Kd.C (Kd.slice 3 (Kd.int .i64)) w A0 l0.length l0) (hc0 : l0.length ≤ c0) (h : impl_copyRows.f k l0 = some r) :
  Calls Try.prog 125 #[.slice A0 l0.length c0] w fun e w' => ∃ v0_ : Value, e = .returned (v0_) ∧ Kd.S (Kd.slice 3 (Kd.int .i64)) 71 w' w.heap.size (fun _ => True) v0_ r ∧ Below w.heap.size w w' := by
 have HR0 := Aside0.mk hr0
 have HC0 := Aside0.mk hc0
 clear hr0 hc0
 have HB := Aside0.mk (Below.refl w.heap.size w)
 have H : (impl_copyRows.l0 k ([] : List (List Int)) l0 (l0.length : Int) 0) = some r := h
 clear h
 have H' := Aside0.mk H
 clear H
 go_enter Try.func125, Try.ntmps125
 go_wp2
 go_loopg [3, 8] k (fun kq v3 v8 w' => ∃ (x3_1 : List (List Int)) (x8_1 : Int), v8 = .int .i64 x8_1 ∧ Aside0 (impl_copyRows.l0 kq x3_1 l0 (l0.length : Int) x8_1 = some r) ∧ Aside0 (kq ≤ k) ∧ Aside0 (Kd.S (Kd.slice 3 (Kd.int .i64)) 71 w' w.heap.size (fun _ => True) v3 x3_1) ∧ Aside0 (Below w.heap.size w w'))
 case atStart => exact ⟨(([] : List (List Int))), (0), (by first | rfl | (simp; done) | (simp [*]; done)), H', ⟨Nat.le_refl _⟩, ⟨by first | exact Kd.S_nil _ _ _ _ _ | exact Kd.N_nil _ _ _ _ _ | exact Kd.V_nil _ _ _ _ _ | exact Kd.Q_nil _ _ _ _ _ | exact Kd.R_nil _ _ _ _ _⟩, ⟨bS⟩⟩
 case round =>
  clear H'
  try clear c1
  obtain ⟨x3_1, x8_1, rfl, HA, HK1, HO_3, HB⟩ := hrel
  cases gk with
  | zero => exact absurd HA.out (by simp [impl_copyRows.l0])
  | succ k1 =>
   have H := HA.out
   clear HA
   simp only [impl_copyRows.l0] at H
   by_cases c2 : x8_1 < (l0.length : Int)
   ·rw [if_pos c2] at H
    have c2b0 : decide (x8_1 < (l0.length : Int)) = true := decide_eq_true c2
    clear c2
    by_cases c3 : 0 ≤ x8_1
    ·rw [if_pos c3] at H
     have c3b0 : decide (0 ≤ x8_1) = true := decide_eq_true c3
     clear c3
     by_cases c4 : x8_1 < (l0.length : Int)
     ·rw [if_pos c4] at H
      have c4b0 : decide (x8_1 < (l0.length : Int)) = true := decide_eq_true c4
      clear c4
      replace H := bN H
      obtain ⟨t438, A5, H⟩ := H
      by_cases c6 : x3_1.length < 5864062014805
      ·rw [if_pos c6] at H
       have LMc6 := Aside0.mk c6
       clear c6
       obtain ⟨y441, hy441⟩ : ∃ y_ : List (List Int), y_ = (x3_1 ++ [t438]) := ⟨_, rfl⟩
       replace H : (impl_copyRows.l0 k1 y441 l0 (l0.length : Int) (wrap64 (x8_1 + 1))) = some r := by first | (rw [hy441]; with_reducible exact H) | (have H2_ := (Option.bind_some _ _).symm.trans H; rw [hy441]; with_reducible exact H2_) | (have H2_ := (Option.bind_some _ _).symm.trans H; with_reducible exact H2_) | with_reducible exact H | (rw [hy441]; exact H) | exact H
       have Ny441 := Aside0.mk hy441
       clear hy441
       have H' := Aside0.mk H
       clear H
       have p437 : 0 ≤ (x8_1 : Int) := of_decide_eq_true (by first | (with_reducible assumption) | assumption)
       have q437 : x8_1 < (l0.length : Int) := of_decide_eq_true (by first | (with_reducible assumption) | assumption)
       obtain ⟨ad437, A437_0, c437_0, e437, hx437_0, hl437_0, hi437_0⟩ := at_L6 HR0.out x8_1 p437 q437
       cases e437
       replace hx437_0 := (HB.out.cell (World.block_lt_of_cell? w _ hx437_0)).trans hx437_0
       have HR437_0 := Aside0.mk hi437_0
       have HC437_0 := Aside0.mk hl437_0
       clear hi437_0 hl437_0
       replace p437 := eq_true p437
       replace q437 := eq_true q437
       go_wp2_with (first | ((with_reducible refine gC 173 ?_); refine cL (some 14) Try.func173 #[.slice A437_0 (rd_L6 l0 x8_1).length c437_0] ?_; (with_reducible refine (slices_Clone_int_int.calls _ _ (rd_L6 l0 x8_1) t438 _ ?side1 ?side2 A5.out).mono ?_); (case side1 => exact cS (Kd.C_below HR437_0.out HB.out)); (case side2 => exact HC437_0.out); rintro e w7 ⟨v439, rfl, ho0, hb⟩; refine ⟨_, rfl, ?_⟩; have HO440 := Aside0.mk (Kd.R_lower ho0 (below_size bS)); replace HO_3 := Aside0.mk (Kd.S_elder' (by (with_reducible repeat (first | apply Kd.S_alloc | apply Kd.S_drewN | apply Kd.S_drew)); exact HO_3.out) (Kd.R_base ho0) hb); replace HB := hB hb; (try clear hb); (try clear hb2); (try clear hk); (try clear hi); (try clear ho0); obtain ⟨Ao9, co9, eo9⟩ := Kd.R_slice HO440.out; subst eo9) | ((with_reducible refine gate_builtin (b := .append) (xs := #[.tmp 12, .tmp 15]) rfl ?_); at_builtin; refine Kd.S_append (Kd.slice 3 (Kd.int .i64)) (w0 := w) w.heap.size rfl (.tmp 12) (.tmp 15) 27 71 (.slice none 0 0) 24 rfl Try.underlying27 info71 rfl (by decide) (by omega) u3 x3_1 t438 [.slice Ao9 t438.length co9] (fun _ => True) (fun k_ => some k_ = (.slice Ao9 t438.length co9 : Value).ownBlock) rfl rfl ?aP (fun k_ hk_ => ((Kd.R_mono (ok' := fun k_ => ((fun _ => True)) k_ ∧ some k_ ≠ (u3 : Value).ownBlock) (Kd.R_apart' (HO440.out) (Kd.S_typed HO_3.out) (by decide)) (fun k_ hk => ⟨trivial, hk.2⟩))).1 k_ hk_.symm) ?aF ?aO ?aB ?aS ?aL ?_; (case aP => exact Kd.M_row (Kd.R_mono (Kd.R_tight rfl (Kd.R_mono (ok' := fun k_ => ((fun _ => True)) k_ ∧ some k_ ≠ (u3 : Value).ownBlock) (Kd.R_apart' (HO440.out) (Kd.S_typed HO_3.out) (by decide)) (fun k_ hk => ⟨trivial, hk.2⟩))) (fun _ h_ => h_))); (case aB => exact bS); (case aF => exact (fun _ _ => trivial)); (case aO => exact (by (with_reducible repeat (first | apply Kd.S_alloc | apply Kd.S_drewN | apply Kd.S_drew)); exact Kd.S_mono HO_3.out (fun k_ hk => ⟨trivial, fun e_ => hk.2 e_⟩))); (case aS => exact (below_size bS)); (case aL => have := LMc6.out; omega); intro v442 w8 ho hb hg hat; rw [← Ny441.out] at ho; have HO443 := Aside0.mk (ho); replace HB := Aside0.mk (hb); clear HO_3 HO440; clear ho hb hg hat))
       go_roundg k1
       case measure => have := HK1.out; omega
       case rel => exact ⟨(y441), (wrap64 (x8_1 + 1)), (by first | rfl | (simp; done) | (simp [*]; done)), H', ⟨by have := HK1.out; omega⟩, ⟨by (with_reducible repeat (first | apply Kd.S_alloc | apply Kd.S_drewN | apply Kd.S_drew)); exact HO443.out⟩, ⟨bS⟩⟩
      ·rw [if_neg c6] at H
       exact absurd H (by simp)
     ·rw [if_neg c4] at H
      exact absurd H (by simp)
    ·rw [if_neg c3] at H
     exact absurd H (by simp)
   ·rw [if_neg c2] at H
    have c2b0 : decide (x8_1 < (l0.length : Int)) = false := decide_eq_false c2
    clear c2
    obtain rfl := Option.some.inj H
    simp only [Option.some.injEq, Prod.mk.injEq] at H
    obtain ⟨rfl⟩ := H
    go_wp2
    go_ret
    exact ⟨_, eS, by (with_reducible repeat (first | apply Kd.S_alloc | apply Kd.S_drewN | apply Kd.S_drew)); exact HO_3.out, bS⟩

/-! ### impl_Point: function 176 -/
def impl_Point.f (l0 : List (S171)) : Option ((List (S171))) := (some (([] : List (S171)) : List (S171))).bind fun y444 => (if y444.length + l0.length < 8796093022208 then (some (y444 ++ l0)) else (none))
theorem impl_Point.calls (A0 : Option Addr) (c0 : Nat) (l0 : List (S171)) (r : List (S171)) (w : World) (hr0 : Kd.C k171 w A0 l0.length l0) (hc0 : l0.length ≤ c0) (h : impl_Point.f l0 = some r) :
  Calls Try.prog 176 #[.slice A0 l0.length c0] w fun e w' => ∃ v0_ : Value, e = .returned (v0_) ∧ Kd.R k171 171 w' w.heap.size (fun _ => True) v0_ r ∧ Below w.heap.size w w' := by
 obtain _ | A0 := A0
 ·have hl0 : l0 = [] := by
   rcases Nat.eq_zero_or_pos l0.length with h0 | h0
   ·exact List.eq_nil_of_length_eq_zero h0
   ·obtain ⟨ad, e, _⟩ := hr0.2.2 h0
    cases e
  subst hl0
  have hr_ : r = [] := by
   have h_ := h
   simp [impl_Point.f] at h_
   first | exact h_ | exact h_.symm
  subst hr_
  have he_ : ∀ w : World, (binOp .eql 42 (.slice none 0 c0) (.slice none 0 0)).run Try.prog w = .ok (.bool true) w := fun _ => rfl
  go_enter Try.func176, Try.ntmps176
  go_wp2
  go_ret
  exact ⟨_, rfl, Kd.R_nil _ _ _ _ _, Below.refl _ _⟩
 have he_ : ∀ w : World, (binOp .eql 42 (.slice (some A0) l0.length c0) (.slice none 0 0)).run Try.prog w = .ok (.bool false) w := fun _ => rfl
 have HR0 := Aside0.mk hr0
 have HC0 := Aside0.mk hc0
 clear hr0 hc0
 have HB := Aside0.mk (Below.refl w.heap.size w)
 have H : ((some (([] : List (S171)) : List (S171))).bind fun y444 => (if y444.length + l0.length < 8796093022208 then (some (y444 ++ l0)) else (none))) = some r := h
 clear h
 obtain ⟨y444, hy444⟩ : ∃ y_ : List (S171), y_ = (([] : List (S171))) := ⟨_, rfl⟩
 replace H : (if y444.length + l0.length < 8796093022208 then (some (y444 ++ l0)) else (none)) = some r := by first | (rw [hy444]; with_reducible exact H) | (have H2_ := (Option.bind_some _ _).symm.trans H; rw [hy444]; with_reducible exact H2_) | (have H2_ := (Option.bind_some _ _).symm.trans H; with_reducible exact H2_) | with_reducible exact H | (rw [hy444]; exact H) | exact H
 have Ny444 := Aside0.mk hy444
 clear hy444
 by_cases c2 : y444.length + l0.length < 8796093022208
 ·rw [if_pos c2] at H
  have LMc2 := Aside0.mk c2
  clear c2
  obtain ⟨y447, hy447⟩ : ∃ y_ : List (S171), y_ = (y444 ++ l0) := ⟨_, rfl⟩
  replace H : (some y447) = some r := by first | (rw [hy447]; with_reducible exact H) | (have H2_ := (Option.bind_some _ _).symm.trans H; rw [hy447]; with_reducible exact H2_) | (have H2_ := (Option.bind_some _ _).symm.trans H; with_reducible exact H2_) | with_reducible exact H | (rw [hy447]; exact H) | exact H
  have Ny447 := Aside0.mk hy447
  clear hy447
  obtain rfl := Option.some.inj H
  simp only [Option.some.injEq, Prod.mk.injEq] at H
  obtain ⟨rfl⟩ := H
  go_enter Try.func176, Try.ntmps176
  go_wp2_with (first | ((with_reducible refine gate_dst (N := 5) rfl ?_); refine Kd.R_lit k171 _ 171 ?hg (N := 5) ?hd (xs := ([] : List (S171))) (inner := []) (ok := fun _ => True) (okp := fun _ => True) ?hr ?hp (fun _ hk => hk) trivial (Below.refl _ _) (Nat.le_refl _) (by simp) ?_; (case hd => rfl); (case hg => rfl); (case hr => first | (go_simp; done) | (go_simp; rfl)); (case hp => exact (Reps.none _ _)); intro v445 w3 ho4 hb hg_ hnew_; clear hg_ hnew_; (first | rw [← Ny444.out] at ho4 | (simp only [Int.reduceToNat] at ho4; rw [← Ny444.out] at ho4)); have HO446 := Aside0.mk (Kd.R_lower ho4 (below_size bS)); replace HB := hB hb; clear hb ho4) | ((with_reducible refine gate_builtin (b := .append) (xs := #[.tmp 5, .tmp 6]) rfl ?_); at_builtin; refine Kd.R_append_rows k171 (w0 := w) w.heap.size rfl (.tmp 5) (.tmp 6) 42 171 (.agg #[(.int .i64 0), (.int .i64 0)]) 16 rfl Try.underlying42 info171 rfl (by decide) (by omega) v445 y444 l0 _ _ _ (fun _ => True) (fun _ => False) rfl rfl ?aO ?aR (fun _ _ h => h) (fun _ h => h.elim) ?aF ?aB ?aS ?aL ?_; (case aR => exact cS (Kd.C_below HR0.out HB.out)); (case aB => exact bS); (case aF => exact (fun _ _ => trivial)); (case aO => exact (rS HO446)); (case aS => exact (below_size bS)); (case aL => have := LMc2.out; omega); intro v448 w5 ho hb hg hat; rw [← Ny447.out] at ho; have HO449 := Aside0.mk (ho); replace HB := Aside0.mk (hb); clear HO446; clear ho hb hg hat))
  go_ret
  exact ⟨_, eS, by (with_reducible repeat (first | apply Kd.R_alloc | apply Kd.R_drewN | apply Kd.R_drew)); exact HO449.out, bS⟩
 ·rw [if_neg c2] at H
  exact absurd H (by simp)

/-! ### impl_copyObject: function 138 -/
def impl_copyObject.f (l0_0 : List (S171)) (a0_1 : Int) (a0_2 : Int) (a0_3 : Int) (a0_4 : Int) (a0_5 : Int) : Option ((List (S171)) × Int × Int × Int × Int × Int) := (impl_Point.f l0_0).bind fun t452 => (some (t452, a0_1, a0_2, a0_3, a0_4, a0_5))
theorem impl_copyObject.calls (A0_0 : Option Addr) (c0_0 : Nat) (l0_0 : List (S171)) (a0_1 : Int) (a0_2 : Int) (a0_3 : Int) (a0_4 : Int) (a0_5 : Int) (r1 : List (S171)) (r2 : Int) (r3 : Int) (r4 : Int) (r5 : Int) (r6 : Int) (w : World) (hr0_0 : Kd.C k171 w A0_0 l0_0.length l0_0) (hc0_0 : l0_0.length ≤ c0_0) (h : impl_copyObject.f l0_0 a0_1 a0_2 a0_3 a0_4 a0_5 = some (r1, r2, r3, r4, r5, r6)) :
  Calls Try.prog 138 #[.agg #[.slice A0_0 l0_0.length c0_0, .int .i64 a0_1, .int .i64 a0_2, .int .i64 a0_3, .int .i64 a0_4, .int .i64 a0_5]] w fun e w' => ∃ v0_ : Value, e = .returned (.agg #[v0_, .int .i64 r2, .int .i64 r3, .int .i64 r4, .int .i64 r5, .int .i64 r6]) ∧ Kd.R k171 171 w' w.heap.size (fun _ => True) v0_ r1 ∧ Below w.heap.size w w' := by
 have hu45 := Try.underlying45
 have HR0_0 := Aside0.mk hr0_0
 have HC0_0 := Aside0.mk hc0_0
 clear hr0_0 hc0_0
 have HB := Aside0.mk (Below.refl w.heap.size w)
 have H : ((impl_Point.f l0_0).bind fun t452 => (some (t452, a0_1, a0_2, a0_3, a0_4, a0_5))) = some (r1, r2, r3, r4, r5, r6) := h
 clear h
 replace H := bN H
 obtain ⟨t452, A2, H⟩ := H
 simp only [Option.some.injEq, Prod.mk.injEq] at H
 obtain ⟨rfl, rfl, rfl, rfl, rfl, rfl⟩ := H
 go_enter Try.func138, Try.ntmps138
 go_wp2_with (first | ((with_reducible refine gD 1 ?_); refine bxE #[.slice A0_0 l0_0.length c0_0, .int .i64 a0_1, .int .i64 a0_2, .int .i64 a0_3, .int .i64 a0_4, .int .i64 a0_5] 45 ?_; intro gb450 hg w3 BK450 hb; have GW450 := gE hg; have GE450 := gE hg; replace HB := hB hb; clear hb hg) | ((with_reducible refine gD 2 ?_); refine bxE #[.slice none 0 0, .int .i64 0, .int .i64 0, .int .i64 0, .int .i64 0, .int .i64 0] 45 ?_; intro gb451 hg w4 BK451 hb; have GW451 := gE hg; have GE451 := gE hg; have NB450_451 := nL (g := gb450) hg; have NB451_450 := nG (g := gb450) hg; replace BK450 := kB (g := gb450) hb; replace HB := hB hb; clear hb hg; have hnb5 := NB450_451.out; have hnc5 := NB451_450.out; have hz6 := cz6 BK450) | ((with_reducible refine gC 176 ?_); refine cL (some 5) Try.func176 #[.slice A0_0 l0_0.length c0_0] ?_; (with_reducible refine (impl_Point.calls _ _ l0_0 t452 _ ?side1 ?side2 A2.out).mono ?_); (case side1 => exact cS (Kd.C_below HR0_0.out HB.out)); (case side2 => exact HC0_0.out); rintro e w7 ⟨v453, rfl, ho0, hb⟩; refine ⟨_, rfl, ?_⟩; have HO454 := Aside0.mk (Kd.R_lower ho0 (below_size bS)); replace BK450 := kB (g := gb450) hb; replace BK451 := kB (g := gb451) hb; replace HB := hB hb; (try clear hb); (try clear hb2); (try clear hk); (try clear hi); (try clear ho0); obtain ⟨Ao8, co8, eo8⟩ := Kd.R_slice HO454.out; subst eo8; have hz9 := cz6 BK450; have hz10 := cz6 BK451))
 refine bodyPost_ret (results_cell_row rfl _ _ gb451 45 #[.slice Ao8 t452.length co8, .int .i64 a0_1, .int .i64 a0_2, .int .i64 a0_3, .int .i64 a0_4, .int .i64 a0_5] (0, 0) _ rfl kS Try.underlying45 rfl (by kernel_rfl)) rfl ?_
 exact ⟨_, eS, by (with_reducible repeat (first | apply Kd.R_alloc | apply Kd.R_drewN | apply Kd.R_drew)); exact Kd.R_mono (Kd.R_far (p := ⟨gb451, 5, none⟩) (Kd.R_far (p := ⟨gb451, 4, none⟩) (Kd.R_far (p := ⟨gb451, 3, none⟩) (Kd.R_far (p := ⟨gb451, 2, none⟩) (Kd.R_far (p := ⟨gb451, 1, none⟩) (Kd.R_far (p := ⟨gb451, 0, none⟩) (Kd.R_far (p := ⟨gb450, 0, none⟩) (Kd.R_types (Kd.R_types HO454.out BK450.out (by decide)) BK451.out (by decide)) (fun _ hk => hk.1.2) (.slice Ao8 t452.length co8)) (fun _ hk => hk.2) (.slice Ao8 t452.length co8)) (fun _ hk => hk.2) (.int .i64 a0_1)) (fun _ hk => hk.2) (.int .i64 a0_2)) (fun _ hk => hk.2) (.int .i64 a0_3)) (fun _ hk => hk.2) (.int .i64 a0_4)) (fun _ hk => hk.2) (.int .i64 a0_5)) (fun _ hk => trivial), bS⟩

/-! ### impl_copyObjects: function 172 -/
def impl_copyObjects.l0 : Nat → List (S45) → List (S45) → Int → Int → Option ((List (S45)))
 | 0, _, _, _, _ => none
 | k + 1, x3, x6, x7, x8 => if x8 < x7 then (if 0 ≤ x8 then (if x8 < (x6.length : Int) then ((impl_copyObject.f ((rd_T45 x6 x8).f0) ((rd_T45 x6 x8).f1) ((rd_T45 x6 x8).f2.f0) ((rd_T45 x6 x8).f2.f1) ((rd_T45 x6 x8).f2.f2) ((rd_T45 x6 x8).f2.f3)).bind fun bt457 => (if x3.length < 2199023255552 then (impl_copyObjects.l0 k (x3 ++ [(⟨bt457.1, bt457.2.1, (⟨bt457.2.2.1, bt457.2.2.2.1, bt457.2.2.2.2.1, bt457.2.2.2.2.2⟩ : S43)⟩ : S45)]) x6 x7 (wrap64 (x8 + 1))) else (none))) else (none)) else (none)) else (some x3)
def impl_copyObjects.f (k : Nat) (l0 : List (S45)) : Option ((List (S45))) := impl_copyObjects.l0 k ([] : List (S45)) l0 (l0.length : Int) 0
theorem impl_copyObjects.calls (k : Nat) (A0 : Option Addr) (c0 : Nat) (l0 : List (S45)) (r : List (S45)) (w : World) (hr0 : Kd.C k45 w A0 l0.length l0) (hc0 : l0.length ≤ c0) (h : impl_copyObjects.f k l0 = some r) :
  Calls Try.prog 172 #[.slice A0 l0.length c0] w fun e w' => ∃ v0_ : Value, e = .returned (v0_) ∧ Kd.S k45 45 w' w.heap.size (fun _ => True) v0_ r ∧ Below w.heap.size w w' := by
 have hu45 := Try.underlying45
 have HR0 := Aside0.mk hr0
 have HC0 := Aside0.mk hc0
 clear hr0 hc0
 have HB := Aside0.mk (Below.refl w.heap.size w)
 have H : (impl_copyObjects.l0 k ([] : List (S45)) l0 (l0.length : Int) 0) = some r := h
 clear h
 have H' := Aside0.mk H
 clear H
 go_enter Try.func172, Try.ntmps172
 go_wp2
 go_loopg [3, 8] k (fun kq v3 v8 w' => ∃ (x3_1 : List (S45)) (x8_1 : Int), v8 = .int .i64 x8_1 ∧ Aside0 (impl_copyObjects.l0 kq x3_1 l0 (l0.length : Int) x8_1 = some r) ∧ Aside0 (kq ≤ k) ∧ Aside0 (Kd.S k45 45 w' w.heap.size (fun _ => True) v3 x3_1) ∧ Aside0 (Below w.heap.size w w'))
 case atStart => exact ⟨(([] : List (S45))), (0), (by first | rfl | (simp; done) | (simp [*]; done)), H', ⟨Nat.le_refl _⟩, ⟨by first | exact Kd.S_nil _ _ _ _ _ | exact Kd.N_nil _ _ _ _ _ | exact Kd.V_nil _ _ _ _ _ | exact Kd.Q_nil _ _ _ _ _ | exact Kd.R_nil _ _ _ _ _⟩, ⟨bS⟩⟩
 case round =>
  clear H'
  try clear c1
  obtain ⟨x3_1, x8_1, rfl, HA, HK1, HO_3, HB⟩ := hrel
  cases gk with
  | zero => exact absurd HA.out (by simp [impl_copyObjects.l0])
  | succ k1 =>
   have H := HA.out
   clear HA
   simp only [impl_copyObjects.l0] at H
   by_cases c2 : x8_1 < (l0.length : Int)
   ·rw [if_pos c2] at H
    have c2b0 : decide (x8_1 < (l0.length : Int)) = true := decide_eq_true c2
    clear c2
    by_cases c3 : 0 ≤ x8_1
    ·rw [if_pos c3] at H
     have c3b0 : decide (0 ≤ x8_1) = true := decide_eq_true c3
     clear c3
     by_cases c4 : x8_1 < (l0.length : Int)
     ·rw [if_pos c4] at H
      have c4b0 : decide (x8_1 < (l0.length : Int)) = true := decide_eq_true c4
      clear c4
      replace H := bN H
      obtain ⟨⟨t457, t460, t461, t462, t463, t464⟩, A5, H⟩ := H
      by_cases c6 : x3_1.length < 2199023255552
      ·rw [if_pos c6] at H
       have LMc6 := Aside0.mk c6
       clear c6
       obtain ⟨y465, hy465⟩ : ∃ y_ : List (S45), y_ = (x3_1 ++ [(⟨t457, t460, (⟨t461, t462, t463, t464⟩ : S43)⟩ : S45)]) := ⟨_, rfl⟩
       replace H : (impl_copyObjects.l0 k1 y465 l0 (l0.length : Int) (wrap64 (x8_1 + 1))) = some r := by first | (rw [hy465]; with_reducible exact H) | (have H2_ := (Option.bind_some _ _).symm.trans H; rw [hy465]; with_reducible exact H2_) | (have H2_ := (Option.bind_some _ _).symm.trans H; with_reducible exact H2_) | with_reducible exact H | (rw [hy465]; exact H) | exact H
       have Ny465 := Aside0.mk hy465
       clear hy465
       have H' := Aside0.mk H
       clear H
       have p455 : 0 ≤ (x8_1 : Int) := of_decide_eq_true (by first | (with_reducible assumption) | assumption)
       have q455 : x8_1 < (l0.length : Int) := of_decide_eq_true (by first | (with_reducible assumption) | assumption)
       obtain ⟨ad455, A455_0, c455_0, e455, hx455_0, hx455_1, hx455_2, hx455_3, hx455_4, hx455_5, hl455_0, hi455_0⟩ := at_T45 HR0.out x8_1 p455 q455
       cases e455
       replace hx455_0 := (HB.out.cell (World.block_lt_of_cell? w _ hx455_0)).trans hx455_0
       replace hx455_1 := (HB.out.cell (World.block_lt_of_cell? w _ hx455_1)).trans hx455_1
       replace hx455_2 := (HB.out.cell (World.block_lt_of_cell? w _ hx455_2)).trans hx455_2
       replace hx455_3 := (HB.out.cell (World.block_lt_of_cell? w _ hx455_3)).trans hx455_3
       replace hx455_4 := (HB.out.cell (World.block_lt_of_cell? w _ hx455_4)).trans hx455_4
       replace hx455_5 := (HB.out.cell (World.block_lt_of_cell? w _ hx455_5)).trans hx455_5
       have HR455_0 := Aside0.mk hi455_0
       have HC455_0 := Aside0.mk hl455_0
       clear hi455_0 hl455_0
       replace p455 := eq_true p455
       replace q455 := eq_true q455
       go_wp2_with (first | ((with_reducible refine gD 5 ?_); refine bxE #[.slice none 0 0, .int .i64 0, .int .i64 0, .int .i64 0, .int .i64 0, .int .i64 0] 45 ?_; intro gb456 hg w7 BK456 hb; have GW456 := gE hg; have GE456 := gE hg; replace HO_3 := Aside0.mk (Kd.S_below (Kd.S_elderB (by (with_reducible repeat (first | apply Kd.S_alloc | apply Kd.S_drewN | apply Kd.S_drew)); exact HO_3.out) gb456 (Nat.le_of_eq hg.symm)) hb); replace HB := hB hb; clear hb hg; have hz8 := cz6 BK456) | ((with_reducible refine gC 138 ?_); refine cL (some 14) Try.func138 #[.agg #[.slice A455_0 ((rd_T45 l0 x8_1).f0).length c455_0, .int .i64 ((rd_T45 l0 x8_1).f1), .int .i64 ((rd_T45 l0 x8_1).f2.f0), .int .i64 ((rd_T45 l0 x8_1).f2.f1), .int .i64 ((rd_T45 l0 x8_1).f2.f2), .int .i64 ((rd_T45 l0 x8_1).f2.f3)]] ?_; (with_reducible refine (impl_copyObject.calls _ _ ((rd_T45 l0 x8_1).f0) ((rd_T45 l0 x8_1).f1) ((rd_T45 l0 x8_1).f2.f0) ((rd_T45 l0 x8_1).f2.f1) ((rd_T45 l0 x8_1).f2.f2) ((rd_T45 l0 x8_1).f2.f3) t457 t460 t461 t462 t463 t464 _ ?side1 ?side2 A5.out).mono ?_); (case side1 => exact Kd.C_below HR455_0.out bS); (case side2 => exact HC455_0.out); rintro e w9 ⟨v458, rfl, ho0, hb⟩; refine ⟨_, rfl, ?_⟩; have HO459 := Aside0.mk (Kd.R_lower ho0 (below_size bS)); replace HO_3 := Aside0.mk (Kd.S_elder' (by (with_reducible repeat (first | apply Kd.S_alloc | apply Kd.S_drewN | apply Kd.S_drew)); exact (Kd.S_mono (Kd.S_far (p := ⟨gb456, 5, none⟩) (Kd.S_far (p := ⟨gb456, 4, none⟩) (Kd.S_far (p := ⟨gb456, 3, none⟩) (Kd.S_far (p := ⟨gb456, 2, none⟩) (Kd.S_far (p := ⟨gb456, 1, none⟩) (Kd.S_far (p := ⟨gb456, 0, none⟩) (Kd.S_mono HO_3.out (fun k_ hk => (⟨hk, hk.2⟩ : _ ∧ k_ ≠ gb456))) (fun _ hk => hk.2) (.slice A455_0 ((rd_T45 l0 x8_1).f0).length c455_0)) (fun _ hk => hk.2) (.int .i64 ((rd_T45 l0 x8_1).f1))) (fun _ hk => hk.2) (.int .i64 ((rd_T45 l0 x8_1).f2.f0))) (fun _ hk => hk.2) (.int .i64 ((rd_T45 l0 x8_1).f2.f1))) (fun _ hk => hk.2) (.int .i64 ((rd_T45 l0 x8_1).f2.f2))) (fun _ hk => hk.2) (.int .i64 ((rd_T45 l0 x8_1).f2.f3))) (fun _ h_ => h_.1))) (Kd.R_base ho0) hb); replace BK456 := Aside0.mk (blk_below (g := gb456) (o := .cells #[.slice A455_0 ((rd_T45 l0 x8_1).f0).length c455_0, .int .i64 ((rd_T45 l0 x8_1).f1), .int .i64 ((rd_T45 l0 x8_1).f2.f0), .int .i64 ((rd_T45 l0 x8_1).f2.f1), .int .i64 ((rd_T45 l0 x8_1).f2.f2), .int .i64 ((rd_T45 l0 x8_1).f2.f3)] 45 (0, 0)) kS hb); replace HB := hB hb; (try clear hb); (try clear hb2); (try clear hk); (try clear hi); (try clear ho0); obtain ⟨Ao11, co11, eo11⟩ := Kd.R_slice HO459.out; subst eo11) | ((with_reducible refine gate_builtin (b := .append) (xs := #[.tmp 12, .tmp 15]) rfl ?_); at_builtin; refine Kd.S_append k45 (w0 := w) w.heap.size rfl (.tmp 12) (.tmp 15) 24 45 (.agg #[(.slice none 0 0), (.int .i64 0), (.int .i64 0), (.int .i64 0), (.int .i64 0), (.int .i64 0)]) 64 rfl Try.underlying24 info45 rfl (by decide) (by omega) u3 x3_1 (⟨t457, t460, (⟨t461, t462, t463, t464⟩ : S43)⟩ : S45) [.slice Ao11 t457.length co11, .int .i64 t460, .int .i64 t461, .int .i64 t462, .int .i64 t463, .int .i64 t464] (fun k_ => k_ ≠ gb456) (fun k_ => some k_ = (.slice Ao11 t457.length co11 : Value).ownBlock) rfl rfl ?aP (fun k_ hk_ => ((Kd.R_mono (ok' := fun k_ => ((fun k_ => k_ ≠ gb456)) k_ ∧ some k_ ≠ (u3 : Value).ownBlock) (Kd.R_types (Kd.R_apart' (HO459.out) (Kd.S_typed HO_3.out) (by decide)) BK456.out (by decide)) (fun k_ hk => ⟨hk.2, hk.1.2⟩))).1 k_ hk_.symm) ?aF ?aO ?aB ?aS ?aL ?_; (case aP => exact k45_mkM _ _ _ (⟨t457, t460, (⟨t461, t462, t463, t464⟩ : S43)⟩ : S45) (Kd.R_mono (Kd.R_tight rfl (Kd.R_mono (ok' := fun k_ => ((fun k_ => k_ ≠ gb456)) k_ ∧ some k_ ≠ (u3 : Value).ownBlock) (Kd.R_types (Kd.R_apart' (HO459.out) (Kd.S_typed HO_3.out) (by decide)) BK456.out (by decide)) (fun k_ hk => ⟨hk.2, hk.1.2⟩))) (fun _ h_ => h_))); (case aB => exact bS); (case aF => exact (fun k_ hk => Kd.freshB (g := gb456) kS k_ hk)); (case aO => exact (by (with_reducible repeat (first | apply Kd.S_alloc | apply Kd.S_drewN | apply Kd.S_drew)); exact Kd.S_mono HO_3.out (fun k_ hk => ⟨hk.1.2, fun e_ => hk.2 e_⟩))); (case aS => exact (below_size bS)); (case aL => have := LMc6.out; omega); intro v466 w10 ho hb hg hat; rw [← Ny465.out] at ho; have HO467 := Aside0.mk (ho); replace BK456 := Aside0.mk (blk_grown (g := gb456) kS hg (Kd.S_away HO_3.out (fun _ hk => hk.1.2))); replace HB := Aside0.mk (hb); clear HO_3 HO459; clear ho hb hg hat))
       go_roundg k1
       case measure => have := HK1.out; omega
       case rel => exact ⟨(y465), (wrap64 (x8_1 + 1)), (by first | rfl | (simp; done) | (simp [*]; done)), H', ⟨by have := HK1.out; omega⟩, ⟨by (with_reducible repeat (first | apply Kd.S_alloc | apply Kd.S_drewN | apply Kd.S_drew)); exact Kd.S_mono HO467.out (fun _ hk => trivial)⟩, ⟨bS⟩⟩
      ·rw [if_neg c6] at H
       exact absurd H (by simp)
     ·rw [if_neg c4] at H
      exact absurd H (by simp)
    ·rw [if_neg c3] at H
     exact absurd H (by simp)
   ·rw [if_neg c2] at H
    have c2b0 : decide (x8_1 < (l0.length : Int)) = false := decide_eq_false c2
    clear c2
    obtain rfl := Option.some.inj H
    simp only [Option.some.injEq, Prod.mk.injEq] at H
    obtain ⟨rfl⟩ := H
    go_wp2
    go_ret
    exact ⟨_, eS, by (with_reducible repeat (first | apply Kd.S_alloc | apply Kd.S_drewN | apply Kd.S_drew)); exact HO_3.out, bS⟩

/-! ### impl_copyBand: function 133 -/
def impl_copyBand.f (k : Nat) (a0_0 : Int) (a0_1 : Int) (l0_2 : List (List Int)) (l0_3 : List (S45)) : Option (Int × Int × (List (List Int)) × (List (S45))) := (impl_copyRows.f k l0_2).bind fun t470 => ((impl_copyObjects.f k l0_3).bind fun t473 => (some (a0_0, a0_1, t470, t473)))
def impl_copyBand.T1 : Bool × List (List Nat × List Nat) := (true, [([], []), ([0], [0]), ([1], [1]), ([], []), ([3], [3]), ([4, 2], [4]), ([0, 1, 2, 3, 4], []), ([6, 2, 5, 0, 1, 2, 3, 4], [2, 6]), ([0, 1, 2, 3, 4, 5, 6, 7], []), ([8, 5, 7, 0, 1, 2, 3, 4, 5, 6, 7], [5, 8])])
def impl_copyBand.B1 : List Nat := [0, 1, 3, 0, 8, 31, 31, 127, 255, 511]
theorem impl_copyBand.tab1 : rtab .any (opsOf Try.f133 1) = impl_copyBand.T1 := by kernel_rfl
theorem impl_copyBand.bits1 : waitsOk impl_copyBand.T1.2 impl_copyBand.B1 = true := by kernel_rfl
theorem impl_copyBand.calls (k : Nat) (a0_0 : Int) (a0_1 : Int) (A0_2 : Option Addr) (c0_2 : Nat) (l0_2 : List (List Int)) (A0_3 : Option Addr) (c0_3 : Nat) (l0_3 : List (S45)) (r1 : Int) (r2 : Int) (r3 : List (List Int)) (r4 : List (S45)) (w : World) (hr0_2 : Kd.C (Kd.slice 3 (Kd.int .i64)) w A0_2 l0_2.length l0_2) (hc0_2 : l0_2.length ≤ c0_2) (hr0_3 : Kd.C k45 w A0_3 l0_3.length l0_3) (hc0_3 : l0_3.length ≤ c0_3) (h : impl_copyBand.f k a0_0 a0_1 l0_2 l0_3 = some (r1, r2, r3, r4)) :
  Calls Try.prog 133 #[.agg #[.int .i64 a0_0, .int .i64 a0_1, .slice A0_2 l0_2.length c0_2, .slice A0_3 l0_3.length c0_3]] w fun e w' => ∃ v2_ v3_ : Value, e = .returned (.agg #[.int .i64 r1, .int .i64 r2, v2_, v3_]) ∧ Kd.S (Kd.slice 3 (Kd.int .i64)) 71 w' w.heap.size (fun _ => True) v2_ r3 ∧ Kd.S k45 45 w' w.heap.size (fun _ => True) v3_ r4 ∧ Below w.heap.size w w' := by
 have hu58 := Try.underlying58
 have HR0_2 := Aside0.mk hr0_2
 have HC0_2 := Aside0.mk hc0_2
 clear hr0_2 hc0_2
 have HR0_3 := Aside0.mk hr0_3
 have HC0_3 := Aside0.mk hc0_3
 clear hr0_3 hc0_3
 have HB := Aside0.mk (Below.refl w.heap.size w)
 have H : ((impl_copyRows.f k l0_2).bind fun t470 => ((impl_copyObjects.f k l0_3).bind fun t473 => (some (a0_0, a0_1, t470, t473)))) = some (r1, r2, r3, r4) := h
 clear h
 replace H := bN H
 obtain ⟨t470, A2, H⟩ := H
 replace H := bN H
 obtain ⟨t473, A3, H⟩ := H
 simp only [Option.some.injEq, Prod.mk.injEq] at H
 obtain ⟨rfl, rfl, rfl, rfl⟩ := H
 go_enter Try.func133, Try.ntmps133
 try go_wp2_with (first | ((with_reducible refine gD 1 ?_); refine bxE #[.int .i64 a0_0, .int .i64 a0_1, .slice A0_2 l0_2.length c0_2, .slice A0_3 l0_3.length c0_3] 58 ?_; intro gb468 hg w4 BK468 hb; have GW468 := gE hg; have GE468 := gE hg; replace HB := hB hb; clear hb hg) | ((with_reducible refine gD 2 ?_); refine bxE #[.int .i64 0, .int .i64 0, .slice none 0 0, .slice none 0 0] 58 ?_; intro gb469 hg w5 BK469 hb; have GW469 := gE hg; have GE469 := gE hg; have NB468_469 := nL (g := gb468) hg; have NB469_468 := nG (g := gb468) hg; replace BK468 := kB (g := gb468) hb; replace HB := hB hb; clear hb hg))
 replace BK468 := Aside0.mk (blk_drew BK468.out)
 replace BK469 := Aside0.mk (blk_drew BK469.out)
 replace HB := Aside0.mk (below_drew1 HB.out)
 refine start_ (n := 10) (S := fun w' => w'.cell? ⟨gb468, 0, none⟩ = some (.int .i64 a0_0) ∧ w'.cell? ⟨gb468, 1, none⟩ = some (.int .i64 a0_1) ∧ w'.cell? ⟨gb468, 2, none⟩ = some (.slice A0_2 l0_2.length c0_2) ∧ w'.cell? ⟨gb468, 3, none⟩ = some (.slice A0_3 l0_3.length c0_3)) (ds := [7, 9]) #[false, false, false, false, false, false, false, false, false, false] (by kernel_rfl) rfl rfl ⟨(blk_cell BK468.out 0).trans rfl, (blk_cell BK468.out 1).trans rfl, (blk_cell BK468.out 2).trans rfl, (blk_cell BK468.out 3).trans rfl⟩ (fun hHeld => ?_); refine with_tabW impl_copyBand.tab1 impl_copyBand.bits1 (fun HT_ HW_ => ?_)
 generalize w5.drew = w6 at BK468 BK469 HB hHeld ⊢
 refine pU 0 (some 3) #[true, false, false, false, false, false, false, false, false, false] ?_
 refine pU 3 (some 6) #[true, false, false, true, false, false, false, false, false, false] ?_
 refine tK 1 (some 4) #[true, true, false, true, false, false, false, false, false, false] ?_
 refine tK 4 (some 7) #[true, true, false, true, true, false, false, false, false, false] ?_
 refine one_ (i := 2) (N := some 5) #[true, true, true, true, true, false, false, false, false, false] rfl rfl (one_of HT_.out (by kernel_rfl)) (by decide) (fun K hK => ?_)
 refine goes_ Try.func125 (by kernel_rfl) rfl #[.slice A0_2 l0_2.length c0_2] (by rfl) rfl rfl (by (try simp only [List.map_toArray, List.map_cons, List.map_nil]); first | done | rfl | (simp only [List.length_drop, List.length_take]; rfl)) ?_
 with_reducible refine (impl_copyRows.calls k _ _ l0_2 t470 _ ?side1 ?side2 A2.out).mono ?_
 (case side1 => exact cS (Kd.C_below HR0_2.out HB.out))
 (case side2 => exact HC0_2.out)
 rintro e w7 ⟨v471, rfl, ho0, hb⟩
 refine ⟨_, rfl, ?_⟩
 have HO472 := Aside0.mk (Kd.S_lower ho0 (below_size bS))
 replace BK468 := kB (g := gb468) hb
 replace BK469 := kB (g := gb469) hb
 replace HB := hB hb
 (try clear hb)
 (try clear hb2)
 (try clear hk)
 (try clear hi)
 (try clear ho0)
 refine hK.out _ _ ⟨(blk_cell BK468.out 0).trans rfl, (blk_cell BK468.out 1).trans rfl, (blk_cell BK468.out 2).trans rfl, (blk_cell BK468.out 3).trans rfl⟩ (fun hHeld => ?_)
 clear hK K
 refine norm_ (a' := ?_) ?_ ?_
 rotate_left
 ·show Act.put _ (some 5) _ = _
  simp only [Act.put, List.setIfInBounds_toArray, List.set_cons_zero, List.set_cons_succ, i64_w, i32_w]
  rfl
 refine pU 6 (some 9) #[true, true, true, true, true, false, true, false, false, false] ?_
 refine one_ (i := 5) (N := some 8) #[true, true, true, true, true, true, true, false, false, false] rfl rfl (one_of HT_.out (by kernel_rfl)) (by decide) (fun K hK => ?_)
 refine goes_ Try.func172 (by kernel_rfl) rfl #[.slice A0_3 l0_3.length c0_3] (by rfl) rfl rfl (by (try simp only [List.map_toArray, List.map_cons, List.map_nil]); first | done | rfl | (simp only [List.length_drop, List.length_take]; rfl)) ?_
 with_reducible refine (impl_copyObjects.calls k _ _ l0_3 t473 _ ?side1 ?side2 A3.out).mono ?_
 (case side1 => exact cS (Kd.C_below HR0_3.out HB.out))
 (case side2 => exact HC0_3.out)
 rintro e w8 ⟨v474, rfl, ho0, hb⟩
 refine ⟨_, rfl, ?_⟩
 have HO475 := Aside0.mk (Kd.S_lower ho0 (below_size bS))
 replace HO472 := Aside0.mk (Kd.S_below (by (with_reducible repeat (first | apply Kd.S_alloc | apply Kd.S_drewN | apply Kd.S_drew)); exact HO472.out) hb)
 replace BK468 := kB (g := gb468) hb
 replace BK469 := kB (g := gb469) hb
 replace HB := hB hb
 (try clear hb)
 (try clear hb2)
 (try clear hk)
 (try clear hi)
 (try clear ho0)
 obtain ⟨Ao9, co9, eo9⟩ := Kd.S_slice HO472.out
 (first | subst eo9 | (injection eo9 with f1_ f2_ f3_; have f4_ := f1_.symm; have f5_ := f3_.symm; clear f1_ f2_ f3_; subst f4_; subst f5_))
 obtain ⟨Ao11, co11, eo11⟩ := Kd.S_slice HO475.out
 (first | subst eo11 | (injection eo11 with f1_ f2_ f3_; have f4_ := f1_.symm; have f5_ := f3_.symm; clear f1_ f2_ f3_; subst f4_; subst f5_))
 refine hK.out _ _ ⟨(blk_cell BK468.out 0).trans rfl, (blk_cell BK468.out 1).trans rfl, (blk_cell BK468.out 2).trans rfl, (blk_cell BK468.out 3).trans rfl⟩ (fun hHeld => ?_)
 clear hK K
 refine norm_ (a' := ?_) ?_ ?_
 rotate_left
 ·show Act.put _ (some 8) _ = _
  simp only [Act.put, List.setIfInBounds_toArray, List.set_cons_zero, List.set_cons_succ, i64_w, i32_w]
  rfl
 refine last_ (i := 7) (N := none) #[true, true, true, true, true, true, true, true, false, false] rfl rfl (one_of HT_.out (by kernel_rfl)) (by decide) (fun K hK => ?_)
 have hs10 : w8.cell? ⟨gb468, 2, none⟩ = some (.slice A0_2 l0_2.length c0_2) := (blk_cell BK468.out 2).trans rfl
 have hfs10 := blk_frozen BK468.out 2
 have hns10_1 := NB469_468.out
 have hms10_1 := NB468_469.out
 refine skip_ (w1 := ?_) (by rfl) rfl ?_ ?_
 rotate_left
 ·go_simp
  rfl
 refine hK.out _ _ ?_
 clear hK K
 refine pU 8 (some 10) #[true, true, true, true, true, true, true, true, true, false] ?_
 refine last_ (i := 9) (N := none) #[true, true, true, true, true, true, true, true, true, true] rfl rfl (one_of HT_.out (by kernel_rfl)) (by decide) (fun K hK => ?_)
 have hs12 : w8.cell? ⟨gb468, 3, none⟩ = some (.slice A0_3 l0_3.length c0_3) := (blk_cell BK468.out 3).trans rfl
 have hfs12 := blk_frozen BK468.out 3
 have hns12_1 := NB469_468.out
 have hms12_1 := NB468_469.out
 refine skip_ (w1 := ?_) (by rfl) rfl ?_ ?_
 rotate_left
 ·go_simp
  rfl
 refine hK.out _ _ ?_
 clear hK K
 refine done_ (done_of HT_.out (by kernel_rfl)) ?_
 have hnb13 := NB468_469.out
 have hnc13 := NB469_468.out
 have hz14 := cz4 BK468
 have hz15 := cz4 BK469
 try go_wp2
 refine bodyPost_ret (results_cell_row rfl _ _ gb469 58 #[.int .i64 a0_0, .int .i64 a0_1, .slice Ao9 t470.length co9, .slice Ao11 t473.length co11] (0, 0) _ rfl kS Try.underlying58 rfl (by kernel_rfl)) rfl ?_
 exact ⟨_, _, eS, by (with_reducible repeat (first | apply Kd.S_alloc | apply Kd.S_drewN | apply Kd.S_drew)); exact Kd.S_mono (Kd.S_far (p := ⟨gb469, 3, none⟩) (Kd.S_far (p := ⟨gb469, 2, none⟩) (Kd.S_far (p := ⟨gb469, 1, none⟩) (Kd.S_far (p := ⟨gb469, 0, none⟩) (Kd.S_far (p := ⟨gb468, 3, none⟩) (Kd.S_far (p := ⟨gb468, 2, none⟩) (Kd.S_types (Kd.S_types HO472.out BK468.out (by decide)) BK469.out (by decide)) (fun _ hk => hk.1.2) (.slice Ao9 t470.length co9)) (fun _ hk => hk.1.2) (.slice Ao11 t473.length co11)) (fun _ hk => hk.2) (.int .i64 a0_0)) (fun _ hk => hk.2) (.int .i64 a0_1)) (fun _ hk => hk.2) (.slice Ao9 t470.length co9)) (fun _ hk => hk.2) (.slice Ao11 t473.length co11)) (fun _ hk => trivial), by (with_reducible repeat (first | apply Kd.S_alloc | apply Kd.S_drewN | apply Kd.S_drew)); exact Kd.S_mono (Kd.S_far (p := ⟨gb469, 3, none⟩) (Kd.S_far (p := ⟨gb469, 2, none⟩) (Kd.S_far (p := ⟨gb469, 1, none⟩) (Kd.S_far (p := ⟨gb469, 0, none⟩) (Kd.S_far (p := ⟨gb468, 3, none⟩) (Kd.S_far (p := ⟨gb468, 2, none⟩) (Kd.S_types (Kd.S_types HO475.out BK468.out (by decide)) BK469.out (by decide)) (fun _ hk => hk.1.2) (.slice Ao9 t470.length co9)) (fun _ hk => hk.1.2) (.slice Ao11 t473.length co11)) (fun _ hk => hk.2) (.int .i64 a0_0)) (fun _ hk => hk.2) (.int .i64 a0_1)) (fun _ hk => hk.2) (.slice Ao9 t470.length co9)) (fun _ hk => hk.2) (.slice Ao11 t473.length co11)) (fun _ hk => trivial), bS⟩

end Go.Proofs.Ytigodjcnkgebaaa.QFnMemory
