-- Made out of the translation by a program of this session (a changed copy of the print). Not trusted: Lean checks it.
import Derived.Test.YtimpejidlnjhlaaQFnPageDotsx0
import Derived.Test.YtimpejidlnjhlaaQFnPageDotsx2
import Derived.Test.YtimpejidlnjhlaaQFnPageDotsx5
import Derived.Test.YtimpejidlnjhlaaQFnPageDotsx7
namespace Go.Proofs.Ytimpejidlnjhlaa.QFnPageDots
open Go.RowKit Go.Proofs.YtimpejidlnjhlaaW.PrintWords Go.Proofs.YtimpejidlnjhlaaW.PrintLast Go.Proofs.YtimpejidlnjhlaaW.PrintMore
attribute [local go_sem] max2_int min2_int max_two min_two max_three min_three max_four min_four   -- for this text's walks alone
set_option linter.unusedVariables false
set_option linter.unusedSimpArgs false
set_option maxHeartbeats 8000000
set_option maxRecDepth 100000

/-! ### impl_PaintAll: function 52 -/
mutual
def impl_PaintAll.j0 : Nat → List (S41) → Bool → Option ((List (List Int)) × Bool)
 | 0, _, _ => none
 | k + 1, x0, x14 => if x14 = true then (some (([] : List (List Int)), false)) else ((impl_WhiteRows.f k 32).bind fun t362 => (impl_PaintAll.l0 k t362 x0 (x0.length : Int) 0))
def impl_PaintAll.l0 : Nat → List (List Int) → List (S41) → Int → Int → Option ((List (List Int)) × Bool)
 | 0, _, _, _, _ => none
 | k + 1, x4, x16, x17, x18 => if x18 < x17 then (if 0 ≤ x18 then (if x18 < (x16.length : Int) then ((impl_paint.f k x4 0 ((rd_T41 x16 x18).f0) ((rd_T41 x16 x18).f1) ((rd_T41 x16 x18).f2.f0) ((rd_T41 x16 x18).f2.f1) ((rd_T41 x16 x18).f2.f2) ((rd_T41 x16 x18).f2.f3)).bind fun t367 => (impl_PaintAll.l0 k t367 x16 x17 (wrap64 (x18 + 1)))) else (none)) else (none)) else (some (x4, true))
end
def impl_PaintAll.f (k : Nat) (l0 : List (S41)) : Option ((List (List Int)) × Bool) := if (l0.length : Int) > 12 then (impl_PaintAll.j0 k l0 true) else ((impl_objectsOk.f k l0).bind fun t361 => (impl_PaintAll.j0 k l0 (!t361)))
theorem impl_PaintAll.calls (k : Nat) (A0 : Option Addr) (c0 : Nat) (l0 : List (S41)) (r1 : List (List Int)) (r2 : Bool) (w : World) (hr0 : Kd.C k41 w A0 l0.length l0) (hc0 : l0.length ≤ c0) (h : impl_PaintAll.f k l0 = some (r1, r2)) :
  Calls Try.prog 52 #[.slice A0 l0.length c0] w fun e w' => ∃ v0_ : Value, e = .returned (.tuple #[v0_, .bool r2]) ∧ Kd.S (Kd.slice 3 (Kd.int .i64)) 22 w' w.heap.size (fun _ => True) v0_ r1 ∧ Below w.heap.size w w' := by
 have hu41 := Try.underlying41
 have HR0 := Aside0.mk hr0
 have HC0 := Aside0.mk hc0
 clear hr0 hc0
 have HB := Aside0.mk (Below.refl w.heap.size w)
 have H : (if (l0.length : Int) > 12 then (impl_PaintAll.j0 k l0 true) else ((impl_objectsOk.f k l0).bind fun t361 => (impl_PaintAll.j0 k l0 (!t361)))) = some (r1, r2) := h
 clear h
 have HC2 := Aside0.mk H
 clear H
 go_enter Try.func52, Try.ntmps52
 go_upto_region 1 with (fail)
 go_cut [14] (fun v14 wc => ∃ (kq : Nat) (x14_1 : Bool), v14 = .bool x14_1 ∧ Aside0 (impl_PaintAll.j0 kq l0 x14_1 = some (r1, r2)) ∧ Aside0 (kq ≤ k) ∧ Aside0 (Below w.heap.size w wc))
 case first =>
  have H := HC2.out
  clear HC2
  by_cases c3 : (l0.length : Int) > 12
  ·rw [if_pos c3] at H
   have c3b0 : decide (12 < (l0.length : Int)) = true := decide_eq_true c3
   have c3b1 : decide (12 < l0.length) = true := decide_eq_true (by omega)
   clear c3
   (first | rw [c3b0] | (simp only [i64_w, i32_w]; rw [c3b0]) | skip)
   have H' := Aside0.mk H
   clear H
   go_wp2
   go_meet
   case rel => exact ⟨_, (true), fS, H', ⟨by first | omega | exact Nat.le_refl _⟩, ⟨bS⟩⟩
  ·rw [if_neg c3] at H
   have c3b0 : decide (12 < (l0.length : Int)) = false := decide_eq_false c3
   have c3b1 : decide (12 < l0.length) = false := decide_eq_false (by omega)
   clear c3
   (first | rw [c3b0] | (simp only [i64_w, i32_w]; rw [c3b0]) | skip)
   replace H := bN H
   obtain ⟨t361, A4, H⟩ := H
   have H' := Aside0.mk H
   clear H
   go_wp2_with (first | (go_at_call 115; (with_reducible refine (impl_objectsOk.calls k _ _ l0 t361 _ (cS (Kd.C_below HR0.out HB.out)) HC0.out A4.out).mono ?_); rintro e w5 ⟨rfl, hb⟩; replace HB := hB hb; (try clear hb); (try clear hb2); (try clear hk); (try clear hi)))
   go_meet
   case rel => exact ⟨_, (!t361), fS, H', ⟨by first | omega | exact Nat.le_refl _⟩, ⟨bS⟩⟩
 case rest =>
  clear HC2
  try clear p2
  try clear c3
  try clear c3b0
  try clear c3b1
  try clear c5
  obtain ⟨kq, x14_1, rfl, HA, HJ1, HB⟩ := hcut
  cases kq with
  | zero => exact absurd HA.out (by simp [impl_PaintAll.j0])
  | succ kj1 =>
   have H := HA.out
   clear HA
   simp only [impl_PaintAll.j0] at H
   by_cases c6 : x14_1 = true
   ·subst c6
    rw [if_pos rfl] at H
    obtain ⟨rfl, rfl⟩ := sI2 H
    go_wp2
    go_ret2
    exact ⟨_, eS, by first | exact Kd.S_nil _ _ _ _ _ | exact Kd.N_nil _ _ _ _ _ | exact Kd.V_nil _ _ _ _ _ | exact Kd.Q_nil _ _ _ _ _ | exact Kd.R_nil _ _ _ _ _, bS⟩
   ·obtain rfl := Bool.eq_false_iff.mpr c6
    rw [if_neg nF] at H
    replace H := bN H
    obtain ⟨t362, A7, H⟩ := H
    have H' := Aside0.mk H
    clear H
    go_wp2_with (first | ((with_reducible refine gC 53 ?_); refine cL (some 15) Try.func53 #[.int .i64 32] ?_; (with_reducible refine (impl_WhiteRows.calls kj1 32 t362 _ A7.out).mono ?_); rintro e w8 ⟨v363, rfl, ho0, hb⟩; refine ⟨_, rfl, ?_⟩; have HO364 := Aside0.mk (Kd.S_lower ho0 (below_size bS)); replace HB := hB hb; (try clear hb); (try clear hb2); (try clear hk); (try clear hi); (try clear ho0)))
    go_loopg [18] kj1 (fun kq v18 w' => ∃ (x4_2 : List (List Int)) (x18_2 : Int), v18 = .int .i64 x18_2 ∧ Aside0 (impl_PaintAll.l0 kq x4_2 l0 (l0.length : Int) x18_2 = some (r1, r2)) ∧ Aside0 (kq ≤ kj1) ∧ Aside0 (Kd.S (Kd.slice 3 (Kd.int .i64)) 22 w' w.heap.size (fun _ => True) v363 x4_2) ∧ Aside0 (Below w.heap.size w w'))
    case atStart => exact ⟨(t362), (0), fS, H', ⟨Nat.le_refl _⟩, ⟨sS HO364⟩, ⟨bS⟩⟩
    case round =>
     clear H'
     try clear p2
     try clear c3
     try clear c3b0
     try clear c3b1
     try clear c5
     try clear c6
     try clear p2
     obtain ⟨x4_2, x18_2, rfl, HA, HK2, HO_4, HB⟩ := hrel
     cases gk with
     | zero => exact absurd HA.out (by simp [impl_PaintAll.l0])
     | succ k2 =>
      have H := HA.out
      clear HA
      simp only [impl_PaintAll.l0] at H
      rcases iD H with ⟨c9b0, H⟩ | ⟨c9b0, H⟩
      ·obtain ⟨c10b0, H⟩ := iT H
       obtain ⟨c11b0, H⟩ := iT H
       replace H := bN H
       obtain ⟨t367, A12, H⟩ := H
       have H' := Aside0.mk H
       clear H
       have p365 : 0 ≤ (x18_2 : Int) := dA
       have q365 : x18_2 < (l0.length : Int) := dA
       obtain ⟨ad365, A365_0, c365_0, e365, hx365_0, hx365_1, hx365_2, hx365_3, hx365_4, hx365_5, hl365_0, hi365_0⟩ := at_T41 HR0.out x18_2 p365 q365
       cases e365
       replace hx365_0 := cB HB hx365_0
       replace hx365_1 := cB HB hx365_1
       replace hx365_2 := cB HB hx365_2
       replace hx365_3 := cB HB hx365_3
       replace hx365_4 := cB HB hx365_4
       replace hx365_5 := cB HB hx365_5
       have HR365_0 := Aside0.mk hi365_0
       have HC365_0 := Aside0.mk hl365_0
       clear hi365_0 hl365_0
       replace p365 := eq_true p365
       replace q365 := eq_true q365
       go_wp2_with (first | ((with_reducible refine gD 6 ?_); refine bxE #[.slice none 0 0, .int .i64 0, .int .i64 0, .int .i64 0, .int .i64 0, .int .i64 0] 41 ?_; intro gb366 hg w13 BK366 hb; have GW366 := gE hg; have GE366 := gE hg; replace HO_4 := sB HO_4 hb; replace HB := hB hb; clear hb hg; have hz14 := cz6 BK366) | ((with_reducible refine gate_store (t := 41) (p := 6) rfl ?_); refine store_event (t := 41) (p := 6) (v := ?vo_w15) (w1 := ((((((w13.setCell ⟨gb366, 0, none⟩ (.slice A365_0 ((rd_T41 l0 x18_2).f0).length c365_0)).setCell ⟨gb366, 1, none⟩ (.int .i64 ((rd_T41 l0 x18_2).f1))).setCell ⟨gb366, 2, none⟩ (.int .i64 ((rd_T41 l0 x18_2).f2.f0))).setCell ⟨gb366, 3, none⟩ (.int .i64 ((rd_T41 l0 x18_2).f2.f1))).setCell ⟨gb366, 4, none⟩ (.int .i64 ((rd_T41 l0 x18_2).f2.f2))).setCell ⟨gb366, 5, none⟩ (.int .i64 ((rd_T41 l0 x18_2).f2.f3)))) ?hg ?ho ?hn ?hr ?_; (case ho => rfl); (case hg => rfl); (case hn => rfl); (case hr => first | (go_simp; done) | (go_simp; rfl)); intro w15 hw; replace HO_4 : Aside0 (Kd.S (Kd.slice 3 (Kd.int .i64)) 22 w15 w.heap.size (fun _ => True) v363 x4_2) := ⟨(by rw [hw]; exact (by exact sT (Kd.S_mono (Kd.S_far (p := ⟨gb366, 5, none⟩) (Kd.S_far (p := ⟨gb366, 4, none⟩) (Kd.S_far (p := ⟨gb366, 3, none⟩) (Kd.S_far (p := ⟨gb366, 2, none⟩) (Kd.S_far (p := ⟨gb366, 1, none⟩) (Kd.S_far (p := ⟨gb366, 0, none⟩) (Kd.S_types HO_4.out BK366.out (by decide)) (fun _ hk => hk.2) (.slice A365_0 ((rd_T41 l0 x18_2).f0).length c365_0)) (fun _ hk => hk.2) (.int .i64 ((rd_T41 l0 x18_2).f1))) (fun _ hk => hk.2) (.int .i64 ((rd_T41 l0 x18_2).f2.f0))) (fun _ hk => hk.2) (.int .i64 ((rd_T41 l0 x18_2).f2.f1))) (fun _ hk => hk.2) (.int .i64 ((rd_T41 l0 x18_2).f2.f2))) (fun _ hk => hk.2) (.int .i64 ((rd_T41 l0 x18_2).f2.f3))) (fun _ hk => trivial))))⟩; replace BK366 : Aside0 (w15.heap[gb366]? = some (.cells #[.slice A365_0 ((rd_T41 l0 x18_2).f0).length c365_0, .int .i64 ((rd_T41 l0 x18_2).f1), .int .i64 ((rd_T41 l0 x18_2).f2.f0), .int .i64 ((rd_T41 l0 x18_2).f2.f1), .int .i64 ((rd_T41 l0 x18_2).f2.f2), .int .i64 ((rd_T41 l0 x18_2).f2.f3)] 41 (0, 0))) := ⟨(by rw [hw]; exact kS)⟩; replace HB : Aside0 (Below w.heap.size w w15) := ⟨(by rw [hw]; exact bS)⟩; clear hw; have hz16 := cz6 BK366; obtain ⟨Ao17, co17, eo17⟩ := Kd.S_slice HO_4.out; subst eo17) | ((with_reducible refine gC 108 ?_); refine cL (some 24) Try.func108 #[.slice Ao17 x4_2.length co17, .int .i64 0, .agg #[.slice A365_0 ((rd_T41 l0 x18_2).f0).length c365_0, .int .i64 ((rd_T41 l0 x18_2).f1), .int .i64 ((rd_T41 l0 x18_2).f2.f0), .int .i64 ((rd_T41 l0 x18_2).f2.f1), .int .i64 ((rd_T41 l0 x18_2).f2.f2), .int .i64 ((rd_T41 l0 x18_2).f2.f3)]] ?_; (with_reducible refine (impl_paint.calls k2 (fun k_ => w.heap.size ≤ k_ ∧ ∃ q_, q_ ∈ 22 :: (Kd.slice 3 (Kd.int .i64)).E ∧ ∃ c_, w15.heap[k_]? = some (.cells c_ q_ (0, 0))) (.slice Ao17 x4_2.length co17) x4_2 0 _ _ ((rd_T41 l0 x18_2).f0) ((rd_T41 l0 x18_2).f1) ((rd_T41 l0 x18_2).f2.f0) ((rd_T41 l0 x18_2).f2.f1) ((rd_T41 l0 x18_2).f2.f2) ((rd_T41 l0 x18_2).f2.f3) t367 w _ ?side1 ?side2 ?side3 ?side4 A12.out).mono ?_); (case side1 => repeat (first | (with_reducible first | exact HB.out | apply below_alloc | apply pw_below_drewN | apply below_drew1 | refine below_set ?_ GE366.out) | exact HB.out)); (case side2 => (with_reducible repeat (first | apply Kd.S_alloc | apply Kd.S_drewN | apply Kd.S_drew)); exact Kd.S_mono (Kd.S_bound HO_4.out) (fun k_ h_ => ⟨h_.2.1, h_.2.2.2⟩)); (case side3 => exact Kd.C_kept_came k166_heap HR365_0.out bS (fun k_ hs_ => (fun e_ => e_.1) hs_)); (case side4 => exact HC365_0.out); rintro e w18 ⟨rfl, hy0, hb, hkp⟩; refine ⟨_, rfl, ?_⟩; replace HO_4 := Aside0.mk (Kd.S_mono hy0 (fun _ _ => trivial)); replace BK366 := Aside0.mk (blk_kept (g := gb366) kS hkp (fun hs_ => (fun e_ => typed_one (by exact BK366.out) e_.2 (by decide)) hs_)); replace HB := Aside0.mk (hb); (try clear hb); (try clear hkp); (try clear hy0)))
       go_roundg k2
       case measure => have := HJ1.out; have := HK2.out; omega
       case rel => exact ⟨(t367), (wrap64 (x18_2 + 1)), fS, H', ⟨by have := HJ1.out; have := HK2.out; omega⟩, ⟨sS HO_4⟩, ⟨bS⟩⟩
      ·obtain ⟨rfl, rfl⟩ := sI2 H
       go_wp2
       go_ret2
       exact ⟨_, eS, sS HO_4, bS⟩

/-! ### impl_CountValue: function 54 -/
mutual
def impl_CountValue.l0 : Nat → Int → Int → List (List Int) → Int → Int → Option (Int)
 | 0, _, _, _, _, _ => none
 | k + 1, x1, x5, x10, x11, x12 => if x12 < x11 then (if 0 ≤ x12 then (if x12 < (x10.length : Int) then (impl_CountValue.l1 k x1 x5 x10 x11 x12 (rd_L3 x10 x12) ((rd_L3 x10 x12).length : Int) 0) else (none)) else (none)) else (some x5)
def impl_CountValue.l1 : Nat → Int → Int → List (List Int) → Int → Int → List Int → Int → Int → Option (Int)
 | 0, _, _, _, _, _, _, _, _ => none
 | k + 1, x1, x5, x10, x11, x12, x16, x17, x18 => if x18 < x17 then (if 0 ≤ x18 then (if x18 < (x16.length : Int) then (if (rd x16 x18) = x1 then (impl_CountValue.l1 k x1 (wrap64 (x5 + 1)) x10 x11 x12 x16 x17 (wrap64 (x18 + 1))) else (impl_CountValue.l1 k x1 x5 x10 x11 x12 x16 x17 (wrap64 (x18 + 1)))) else (none)) else (none)) else (impl_CountValue.l0 k x1 x5 x10 x11 (wrap64 (x12 + 1)))
end
def impl_CountValue.f (k : Nat) (l0 : List (List Int)) (a1 : Int) : Option (Int) := impl_CountValue.l0 k a1 0 l0 (l0.length : Int) 0
theorem impl_CountValue.calls (k : Nat) (A0 : Option Addr) (c0 : Nat) (l0 : List (List Int)) (a1 : Int) (r : Int) (w : World) (hr0 : Kd.C (Kd.slice 3 (Kd.int .i64)) w A0 l0.length l0) (hc0 : l0.length ≤ c0) (h : impl_CountValue.f k l0 a1 = some r) :
  Calls Try.prog 54 #[.slice A0 l0.length c0, .int .i64 a1] w fun e w' => e = .returned (.int .i64 r) ∧ Drawn0 w w' := by
 have HR0 := Aside0.mk hr0
 have HC0 := Aside0.mk hc0
 clear hr0 hc0
 have H : (impl_CountValue.l0 k a1 0 l0 (l0.length : Int) 0) = some r := h
 clear h
 have H' := Aside0.mk H
 clear H
 go_enter Try.func54, Try.ntmps54
 go_wp2
 go_loopg [5, 12] k (fun kq v5 v12 w' => ∃ (x5_1 : Int) (x12_1 : Int), v5 = .int .i64 x5_1 ∧ v12 = .int .i64 x12_1 ∧ Aside0 (impl_CountValue.l0 kq a1 x5_1 l0 (l0.length : Int) x12_1 = some r) ∧ Aside0 (kq ≤ k) ∧ Drawn0 w w')
 case atStart => exact ⟨(0), (0), fS, fS, H', ⟨Nat.le_refl _⟩, dS⟩
 case round =>
  clear H'
  try clear p2
  obtain ⟨x5_1, x12_1, rfl, rfl, HA, HK1, ⟨m1, rfl⟩⟩ := hrel
  cases gk with
  | zero => exact absurd HA.out (by simp [impl_CountValue.l0])
  | succ k1 =>
   have H := HA.out
   clear HA
   simp only [impl_CountValue.l0] at H
   by_cases c3 : x12_1 < (l0.length : Int)
   ·rw [if_pos c3] at H
    have c3b0 : decide (x12_1 < (l0.length : Int)) = true := decide_eq_true c3
    clear c3
    by_cases c4 : 0 ≤ x12_1
    ·rw [if_pos c4] at H
     have c4b0 : decide (0 ≤ x12_1) = true := decide_eq_true c4
     clear c4
     by_cases c5 : x12_1 < (l0.length : Int)
     ·rw [if_pos c5] at H
      have c5b0 : decide (x12_1 < (l0.length : Int)) = true := decide_eq_true c5
      clear c5
      have H' := Aside0.mk H
      clear H
      have p368 : 0 ≤ (x12_1 : Int) := dA
      have q368 : x12_1 < (l0.length : Int) := dA
      obtain ⟨ad368, A368_0, c368_0, e368, hx368_0, hl368_0, hi368_0⟩ := at_L3 HR0.out x12_1 p368 q368
      cases e368
      have HR368_0 := Aside0.mk hi368_0
      have HC368_0 := Aside0.mk hl368_0
      clear hi368_0 hl368_0
      replace p368 := eq_true p368
      replace q368 := eq_true q368
      go_wp2
      go_loopg [5, 18] k1 (fun kq v5 v18 w' => ∃ (x5_2 : Int) (x18_2 : Int), v5 = .int .i64 x5_2 ∧ v18 = .int .i64 x18_2 ∧ Aside0 (impl_CountValue.l1 kq a1 x5_2 l0 (l0.length : Int) x12_1 (rd_L3 l0 x12_1) ((rd_L3 l0 x12_1).length : Int) x18_2 = some r) ∧ Aside0 (kq ≤ k1) ∧ Drawn0 w w')
      case atStart => exact ⟨(x5_1), (0), fS, fS, H', ⟨Nat.le_refl _⟩, dS⟩
      case round =>
       clear H'
       try clear p2
       try clear c3
       try clear c3b0
       try clear p3
       try clear q3
       try clear hx3
       try clear c4
       try clear c4b0
       try clear c5
       try clear c5b0
       try clear hx368_0
       try clear p2
       try clear p368
       try clear q368
       obtain ⟨x5_2, x18_2, rfl, rfl, HA, HK2, ⟨m2, rfl⟩⟩ := hrel
       cases gk with
       | zero => exact absurd HA.out (by simp [impl_CountValue.l1])
       | succ k2 =>
        have H := HA.out
        clear HA
        simp only [impl_CountValue.l1] at H
        rcases iD H with ⟨c6b0, H⟩ | ⟨c6b0, H⟩
        ·obtain ⟨c7b0, H⟩ := iT H
         obtain ⟨c8b0, H⟩ := iT H
         by_cases c9 : (rd (rd_L3 l0 x12_1) x18_2) = a1
         ·rw [if_pos c9] at H
          have c9b0 : ((rd (rd_L3 l0 x12_1) x18_2) == a1) = true := beq_iff_eq.mpr c9
          have c9b1 : ((rd (rd_L3 l0 x12_1) x18_2) != a1) = false := bne_eq_false_iff_eq.mpr c9
          clear c9
          have H' := Aside0.mk H
          clear H
          have p369 : 0 ≤ (x18_2 : Int) := dA
          have q369 : x18_2 < ((rd_L3 l0 x12_1).length : Int) := dA
          obtain ⟨ad369, e369, hx369_0⟩ := Kd.at_int HR368_0.out x18_2 p369 q369
          cases e369
          replace p369 := eq_true p369
          replace q369 := eq_true q369
          go_wp2
          go_roundg k2
          case measure => have := HK1.out; have := HK2.out; omega
          case rel => exact ⟨(wrap64 (x5_2 + 1)), (wrap64 (x18_2 + 1)), fS, fS, H', ⟨by have := HK1.out; have := HK2.out; omega⟩, dS⟩
         ·rw [if_neg c9] at H
          have c9b0 : ((rd (rd_L3 l0 x12_1) x18_2) == a1) = false := beq_eq_false_iff_ne.mpr c9
          have c9b1 : ((rd (rd_L3 l0 x12_1) x18_2) != a1) = true := bne_iff_ne.mpr c9
          have H' := Aside0.mk H
          clear H
          have p369 : 0 ≤ (x18_2 : Int) := dA
          have q369 : x18_2 < ((rd_L3 l0 x12_1).length : Int) := dA
          obtain ⟨ad369, e369, hx369_0⟩ := Kd.at_int HR368_0.out x18_2 p369 q369
          cases e369
          replace p369 := eq_true p369
          replace q369 := eq_true q369
          go_wp2
          go_roundg k2
          case measure => have := HK1.out; have := HK2.out; omega
          case rel => exact ⟨(x5_2), (wrap64 (x18_2 + 1)), fS, fS, H', ⟨by have := HK1.out; have := HK2.out; omega⟩, dS⟩
        ·have H' := Aside0.mk H
         clear H
         go_wp2
         go_roundg k2
         case measure => have := HK1.out; have := HK2.out; omega
         case rel => exact ⟨(x5_2), (wrap64 (x12_1 + 1)), fS, fS, H', ⟨by have := HK1.out; have := HK2.out; omega⟩, dS⟩
     ·rw [if_neg c5] at H
      exact absurd H (by simp)
    ·rw [if_neg c4] at H
     exact absurd H (by simp)
   ·rw [if_neg c3] at H
    have c3b0 : decide (x12_1 < (l0.length : Int)) = false := decide_eq_false c3
    clear c3
    obtain rfl := Option.some.inj H
    go_wp2
    go_ret
    exact ⟨fS, dS⟩

/-! ### impl_SpanDots: function 99 -/
def impl_SpanDots.l0 : Nat → Int → List (S140) → Int → Int → Option (Int)
 | 0, _, _, _, _ => none
 | k + 1, x3, x9, x10, x11 => if x11 < x10 then (if 0 ≤ x11 then (if x11 < (x9.length : Int) then (impl_SpanDots.l0 k (wrap64 (x3 + (wrap64 (((rd_T140 x9 x11).f1) - ((rd_T140 x9 x11).f0))))) x9 x10 (wrap64 (x11 + 1))) else (none)) else (none)) else (some x3)
def impl_SpanDots.f (k : Nat) (l0 : List (S140)) : Option (Int) := (impl_SpansOk.f k l0).bind fun t370 => (if t370 = true then (impl_SpanDots.l0 k 0 l0 (l0.length : Int) 0) else (some 0))
theorem impl_SpanDots.calls (k : Nat) (A0 : Option Addr) (c0 : Nat) (l0 : List (S140)) (r : Int) (w : World) (hr0 : Kd.C k140 w A0 l0.length l0) (hc0 : l0.length ≤ c0) (h : impl_SpanDots.f k l0 = some r) :
  Calls Try.prog 99 #[.slice A0 l0.length c0] w fun e w' => e = .returned (.int .i64 r) ∧ Below w.heap.size w w' := by
 have hu140 := Try.underlying140
 have HR0 := Aside0.mk hr0
 have HC0 := Aside0.mk hc0
 clear hr0 hc0
 have HB := Aside0.mk (Below.refl w.heap.size w)
 have H : ((impl_SpansOk.f k l0).bind fun t370 => (if t370 = true then (impl_SpanDots.l0 k 0 l0 (l0.length : Int) 0) else (some 0))) = some r := h
 clear h
 replace H := bN H
 obtain ⟨t370, A2, H⟩ := H
 by_cases c3 : t370 = true
 ·subst c3
  rw [if_pos rfl] at H
  have H' := Aside0.mk H
  clear H
  go_enter Try.func99, Try.ntmps99
  go_wp2_with (first | ((with_reducible refine gC 149 ?_); refine cL (some 7) Try.func149 #[.slice A0 l0.length c0] ?_; (with_reducible refine (impl_SpansOk.calls k _ _ l0 _ _ ?side1 ?side2 A2.out).mono ?_); (case side1 => repeat (first | exact HR0.out | (with_reducible refine Kd.C_alloc ?_ _) | (with_reducible refine Kd.C_drewN ?_ _) | (with_reducible refine Kd.C_drew ?_))); (case side2 => exact HC0.out); rintro e w4 ⟨rfl, hb⟩; refine ⟨_, rfl, ?_⟩; replace HB := hB hb; (try clear hb); (try clear hb2); (try clear hk); (try clear hi)))
  go_loopg [3, 11] k (fun kq v3 v11 w' => ∃ (x3_1 : Int) (x11_1 : Int), v3 = .int .i64 x3_1 ∧ v11 = .int .i64 x11_1 ∧ Aside0 (impl_SpanDots.l0 kq x3_1 l0 (l0.length : Int) x11_1 = some r) ∧ Aside0 (kq ≤ k) ∧ Aside0 (Below w.heap.size w w'))
  case atStart => exact ⟨(0), (0), fS, fS, H', ⟨Nat.le_refl _⟩, ⟨bS⟩⟩
  case round =>
   clear H'
   try clear c1
   try clear p2
   try clear c3
   obtain ⟨x3_1, x11_1, rfl, rfl, HA, HK1, HB⟩ := hrel
   cases gk with
   | zero => exact absurd HA.out (by simp [impl_SpanDots.l0])
   | succ k1 =>
    have H := HA.out
    clear HA
    simp only [impl_SpanDots.l0] at H
    rcases iD H with ⟨c5b0, H⟩ | ⟨c5b0, H⟩
    ·obtain ⟨c6b0, H⟩ := iT H
     obtain ⟨c7b0, H⟩ := iT H
     have H' := Aside0.mk H
     clear H
     have p371 : 0 ≤ (x11_1 : Int) := dA
     have q371 : x11_1 < (l0.length : Int) := dA
     obtain ⟨ad371, e371, hx371_0, hx371_1⟩ := at_T140 HR0.out x11_1 p371 q371
     cases e371
     replace hx371_0 := cB HB hx371_0
     replace hx371_1 := cB HB hx371_1
     replace p371 := eq_true p371
     replace q371 := eq_true q371
     go_wp2_with (first | ((with_reducible refine gD 5 ?_); refine bxE #[.int .i64 0, .int .i64 0] 140 ?_; intro gb372 hg w8 BK372 hb; have GW372 := gE hg; have GE372 := gE hg; replace HB := hB hb; clear hb hg; have hz9 := cz2 BK372))
     go_roundg k1
     case measure => have := HK1.out; omega
     case rel => exact ⟨(wrap64 (x3_1 + (wrap64 (((rd_T140 l0 x11_1).f1) - ((rd_T140 l0 x11_1).f0))))), (wrap64 (x11_1 + 1)), fS, fS, H', ⟨by have := HK1.out; omega⟩, ⟨bS⟩⟩
    ·obtain rfl := Option.some.inj H
     go_wp2
     go_ret
     exact ⟨eS, bS⟩
 ·obtain rfl := Bool.eq_false_iff.mpr c3
  rw [if_neg nF] at H
  obtain rfl := Option.some.inj H
  go_enter Try.func99, Try.ntmps99
  go_wp2_with (first | ((with_reducible refine gC 149 ?_); refine cL (some 7) Try.func149 #[.slice A0 l0.length c0] ?_; (with_reducible refine (impl_SpansOk.calls k _ _ l0 _ _ ?side1 ?side2 A2.out).mono ?_); (case side1 => repeat (first | exact HR0.out | (with_reducible refine Kd.C_alloc ?_ _) | (with_reducible refine Kd.C_drewN ?_ _) | (with_reducible refine Kd.C_drew ?_))); (case side2 => exact HC0.out); rintro e w10 ⟨rfl, hb⟩; refine ⟨_, rfl, ?_⟩; replace HB := hB hb; (try clear hb); (try clear hb2); (try clear hk); (try clear hi)))
  go_ret
  exact ⟨eS, bS⟩

/-! ### impl_ObjectDots: function 55 -/
def impl_ObjectDots.l0 : Nat → Int → Int → List (S166) → Int → Int → Int → Int → Int → Option (Int)
 | 0, _, _, _, _, _, _, _, _ => none
 | k + 1, x3, x4, x374000, x374001, x374002, x374003, x374004, x374005 => if x4 < 32 then ((impl_ObjectRow.f k x374000 x374001 x374002 x374003 x374004 x374005 x4).bind fun t374 => ((impl_SpanDots.f k t374).bind fun t377 => (impl_ObjectDots.l0 k (wrap64 (x3 + t377)) (wrap64 (x4 + 1)) x374000 x374001 x374002 x374003 x374004 x374005))) else (some x3)
def impl_ObjectDots.f (k : Nat) (l0_0 : List (S166)) (a0_1 : Int) (a0_2 : Int) (a0_3 : Int) (a0_4 : Int) (a0_5 : Int) : Option (Int) := impl_ObjectDots.l0 k 0 0 l0_0 a0_1 a0_2 a0_3 a0_4 a0_5
theorem impl_ObjectDots.calls (k : Nat) (A0_0 : Option Addr) (c0_0 : Nat) (l0_0 : List (S166)) (a0_1 : Int) (a0_2 : Int) (a0_3 : Int) (a0_4 : Int) (a0_5 : Int) (r : Int) (w : World) (hr0_0 : Kd.C k166 w A0_0 l0_0.length l0_0) (hc0_0 : l0_0.length ≤ c0_0) (h : impl_ObjectDots.f k l0_0 a0_1 a0_2 a0_3 a0_4 a0_5 = some r) :
  Calls Try.prog 55 #[.agg #[.slice A0_0 l0_0.length c0_0, .int .i64 a0_1, .int .i64 a0_2, .int .i64 a0_3, .int .i64 a0_4, .int .i64 a0_5]] w fun e w' => e = .returned (.int .i64 r) ∧ Below w.heap.size w w' := by
 have hu41 := Try.underlying41
 have HR0_0 := Aside0.mk hr0_0
 have HC0_0 := Aside0.mk hc0_0
 clear hr0_0 hc0_0
 have HB := Aside0.mk (Below.refl w.heap.size w)
 have H : (impl_ObjectDots.l0 k 0 0 l0_0 a0_1 a0_2 a0_3 a0_4 a0_5) = some r := h
 clear h
 have H' := Aside0.mk H
 clear H
 go_enter Try.func55, Try.ntmps55
 go_wp2_with (first | ((with_reducible refine gD 1 ?_); refine bxE #[.slice A0_0 l0_0.length c0_0, .int .i64 a0_1, .int .i64 a0_2, .int .i64 a0_3, .int .i64 a0_4, .int .i64 a0_5] 41 ?_; intro gb373 hg w2 BK373 hb; have GW373 := gE hg; have GE373 := gE hg; replace HB := hB hb; clear hb hg))
 go_loopg [3, 4] k (fun kq v3 v4 w' => ∃ (x3_1 : Int) (x4_1 : Int), v3 = .int .i64 x3_1 ∧ v4 = .int .i64 x4_1 ∧ Aside0 (impl_ObjectDots.l0 kq x3_1 x4_1 l0_0 a0_1 a0_2 a0_3 a0_4 a0_5 = some r) ∧ Aside0 (kq ≤ k) ∧ Aside0 (w'.heap[gb373]? = some (.cells #[(.slice A0_0 l0_0.length c0_0), .int .i64 a0_1, .int .i64 a0_2, .int .i64 a0_3, .int .i64 a0_4, .int .i64 a0_5] 41 (0, 0))) ∧ Aside0 (Below w.heap.size w w'))
 case atStart => exact ⟨(0), (0), fS, fS, H', ⟨Nat.le_refl _⟩, ⟨kS⟩, ⟨bS⟩⟩
 case round =>
  clear H'
  try clear p2
  obtain ⟨x3_1, x4_1, rfl, rfl, HA, HK1, BK373, HB⟩ := hrel
  cases gk with
  | zero => exact absurd HA.out (by simp [impl_ObjectDots.l0])
  | succ k1 =>
   have H := HA.out
   clear HA
   simp only [impl_ObjectDots.l0] at H
   rcases iD H with ⟨c3b0, H⟩ | ⟨c3b0, H⟩
   ·replace H := bN H
    obtain ⟨t374, A4, H⟩ := H
    replace H := bN H
    obtain ⟨t377, A5, H⟩ := H
    have H' := Aside0.mk H
    clear H
    have hz6 := cz6 BK373
    go_wp2_with (first | ((with_reducible refine gC 45 ?_); refine cL (some 12) Try.func45 #[.agg #[.slice A0_0 l0_0.length c0_0, .int .i64 a0_1, .int .i64 a0_2, .int .i64 a0_3, .int .i64 a0_4, .int .i64 a0_5], .int .i64 x4_1] ?_; (with_reducible refine (impl_ObjectRow.calls k1 _ _ l0_0 a0_1 a0_2 a0_3 a0_4 a0_5 x4_1 t374 _ (cS (Kd.C_below HR0_0.out HB.out)) HC0_0.out A4.out).mono ?_); rintro e w7 ⟨v375, rfl, ho0, hb⟩; refine ⟨_, rfl, ?_⟩; have HO376 := Aside0.mk (Kd.R_lower ho0 (below_size bS)); replace BK373 := kB (g := gb373) hb; replace HB := hB hb; (try clear hb); (try clear hb2); (try clear hk); (try clear hi); (try clear ho0); obtain ⟨Ao8, co8, eo8⟩ := Kd.R_slice HO376.out; subst eo8) | ((with_reducible refine gC 99 ?_); refine cL (some 13) Try.func99 #[.slice Ao8 t374.length co8] ?_; (with_reducible refine (impl_SpanDots.calls k1 _ _ t374 t377 _ (cS (Kd.R_reads' HO376.out).2.2) ((Kd.R_reads' HO376.out).2.1) A5.out).mono ?_); rintro e w9 ⟨rfl, hb⟩; refine ⟨_, rfl, ?_⟩; replace HO376 := Aside0.mk (Kd.R_below (rS HO376) hb); replace BK373 := kB (g := gb373) hb; replace HB := hB hb; (try clear hb); (try clear hb2); (try clear hk); (try clear hi)))
    go_roundg k1
    case measure => have := HK1.out; omega
    case rel => exact ⟨(wrap64 (x3_1 + t377)), (wrap64 (x4_1 + 1)), fS, fS, H', ⟨by have := HK1.out; omega⟩, ⟨kS⟩, ⟨bS⟩⟩
   ·obtain rfl := Option.some.inj H
    go_wp2
    go_ret
    exact ⟨eS, bS⟩

end Go.Proofs.Ytimpejidlnjhlaa.QFnPageDots
