-- Made out of the translation by a program of this session (a changed copy of the print). Not trusted: Lean checks it.
import Derived.Test.YtcalgoembdmlkaaQFnObjectsx0
import Derived.Test.YtcalgoembdmlkaaQFnObjectsx1
import Derived.Test.YtcalgoembdmlkaaQFnObjectsx4
import Derived.Test.YtcalgoembdmlkaaQFnObjectsx5
import Derived.Test.YtcalgoembdmlkaaQFnObjectsx6
import Derived.Test.YtcalgoembdmlkaaQFnObjectsx7
namespace Go.Proofs.Ytcalgoembdmlkaa.QFnObjects
open Go.RowKit Go.Proofs.YtcalgoembdmlkaaW.PrintWords Go.Proofs.YtcalgoembdmlkaaW.PrintLast Go.Proofs.YtcalgoembdmlkaaW.PrintMore
attribute [local go_sem] max2_int min2_int max_two min_two max_three min_three max_four min_four   -- for this text's walks alone
set_option linter.unusedVariables false
set_option linter.unusedSimpArgs false
set_option maxHeartbeats 8000000
set_option maxRecDepth 100000

/-! ### impl_InSpans: function 85 -/
def impl_InSpans.l0 : Nat → Int → List (S128) → Int → Int → Option (Bool)
 | 0, _, _, _, _ => none
 | k + 1, x1, x7, x8, x9 => if x9 < x8 then (if 0 ≤ x9 then (if x9 < (x7.length : Int) then (if x1 ≥ ((rd_T128 x7 x9).f0) then (if x1 < ((rd_T128 x7 x9).f1) then (some true) else (impl_InSpans.l0 k x1 x7 x8 (wrap64 (x9 + 1)))) else (impl_InSpans.l0 k x1 x7 x8 (wrap64 (x9 + 1)))) else (none)) else (none)) else (some false)
def impl_InSpans.f (k : Nat) (l0 : List (S128)) (a1 : Int) : Option (Bool) := impl_InSpans.l0 k a1 l0 (l0.length : Int) 0
theorem impl_InSpans.calls (k : Nat) (A0 : Option Addr) (c0 : Nat) (l0 : List (S128)) (a1 : Int) (r : Bool) (w : World) (hr0 : Kd.C k128 w A0 l0.length l0) (hc0 : l0.length ≤ c0) (h : impl_InSpans.f k l0 a1 = some r) :
  Calls Try.prog 85 #[.slice A0 l0.length c0, .int .i64 a1] w fun e w' => e = .returned (.bool r) ∧ Below w.heap.size w w' := by
 have hu128 := Try.underlying128
 have HR0 := Aside0.mk hr0
 have HC0 := Aside0.mk hc0
 clear hr0 hc0
 have HB := Aside0.mk (Below.refl w.heap.size w)
 have H : (impl_InSpans.l0 k a1 l0 (l0.length : Int) 0) = some r := h
 clear h
 have H' := Aside0.mk H
 clear H
 go_enter Try.func85, Try.ntmps85
 go_wp2
 go_loopg [9] k (fun kq v9 w' => ∃ (x9_1 : Int), v9 = .int .i64 x9_1 ∧ Aside0 (impl_InSpans.l0 kq a1 l0 (l0.length : Int) x9_1 = some r) ∧ Aside0 (kq ≤ k) ∧ Aside0 (Below w.heap.size w w'))
 case atStart => exact ⟨(0), (by first | rfl | (simp; done) | (simp [*]; done)), H', ⟨Nat.le_refl _⟩, ⟨bS⟩⟩
 case round =>
  clear H'
  try clear p2
  obtain ⟨x9_1, rfl, HA, HK1, HB⟩ := hrel
  cases gk with
  | zero => exact absurd HA.out (by simp [impl_InSpans.l0])
  | succ k1 =>
   have H := HA.out
   clear HA
   simp only [impl_InSpans.l0] at H
   by_cases c3 : x9_1 < (l0.length : Int)
   ·rw [if_pos c3] at H
    have c3b0 : decide (x9_1 < (l0.length : Int)) = true := decide_eq_true c3
    clear c3
    by_cases c4 : 0 ≤ x9_1
    ·rw [if_pos c4] at H
     have c4b0 : decide (0 ≤ x9_1) = true := decide_eq_true c4
     clear c4
     by_cases c5 : x9_1 < (l0.length : Int)
     ·rw [if_pos c5] at H
      have c5b0 : decide (x9_1 < (l0.length : Int)) = true := decide_eq_true c5
      clear c5
      by_cases c6 : a1 ≥ ((rd_T128 l0 x9_1).f0)
      ·rw [if_pos c6] at H
       have c6b0 : decide (((rd_T128 l0 x9_1).f0) ≤ a1) = true := decide_eq_true c6
       clear c6
       by_cases c7 : a1 < ((rd_T128 l0 x9_1).f1)
       ·rw [if_pos c7] at H
        have c7b0 : decide (a1 < ((rd_T128 l0 x9_1).f1)) = true := decide_eq_true c7
        clear c7
        obtain rfl := Option.some.inj H
        simp only [Option.some.injEq, Prod.mk.injEq] at H
        obtain ⟨rfl⟩ := H
        have p396 : 0 ≤ (x9_1 : Int) := of_decide_eq_true (by first | (with_reducible assumption) | assumption)
        have q396 : x9_1 < (l0.length : Int) := of_decide_eq_true (by first | (with_reducible assumption) | assumption)
        obtain ⟨ad396, e396, hx396_0, hx396_1⟩ := at_T128 HR0.out x9_1 p396 q396
        cases e396
        replace hx396_0 := (HB.out.cell (World.block_lt_of_cell? w _ hx396_0)).trans hx396_0
        replace hx396_1 := (HB.out.cell (World.block_lt_of_cell? w _ hx396_1)).trans hx396_1
        replace p396 := eq_true p396
        replace q396 := eq_true q396
        go_wp2_with (first | ((with_reducible refine gD 6 ?_); refine bxE #[.int .i64 0, .int .i64 0] 128 ?_; intro gb397 hg w8 BK397 hb; have GW397 := gE hg; have GE397 := gE hg; replace HB := hB hb; clear hb hg; have hz9 := cz2 BK397))
        go_ret
        exact ⟨eS, bS⟩
       ·rw [if_neg c7] at H
        have c7b0 : decide (a1 < ((rd_T128 l0 x9_1).f1)) = false := decide_eq_false c7
        clear c7
        have H' := Aside0.mk H
        clear H
        have p396 : 0 ≤ (x9_1 : Int) := of_decide_eq_true (by first | (with_reducible assumption) | assumption)
        have q396 : x9_1 < (l0.length : Int) := of_decide_eq_true (by first | (with_reducible assumption) | assumption)
        obtain ⟨ad396, e396, hx396_0, hx396_1⟩ := at_T128 HR0.out x9_1 p396 q396
        cases e396
        replace hx396_0 := (HB.out.cell (World.block_lt_of_cell? w _ hx396_0)).trans hx396_0
        replace hx396_1 := (HB.out.cell (World.block_lt_of_cell? w _ hx396_1)).trans hx396_1
        replace p396 := eq_true p396
        replace q396 := eq_true q396
        go_wp2_with (first | ((with_reducible refine gD 6 ?_); refine bxE #[.int .i64 0, .int .i64 0] 128 ?_; intro gb397 hg w10 BK397 hb; have GW397 := gE hg; have GE397 := gE hg; replace HB := hB hb; clear hb hg; have hz11 := cz2 BK397))
        go_roundg k1
        case measure => have := HK1.out; omega
        case rel => exact ⟨(wrap64 (x9_1 + 1)), (by first | rfl | (simp; done) | (simp [*]; done)), H', ⟨by have := HK1.out; omega⟩, ⟨bS⟩⟩
      ·rw [if_neg c6] at H
       have c6b0 : decide (((rd_T128 l0 x9_1).f0) ≤ a1) = false := decide_eq_false c6
       clear c6
       have H' := Aside0.mk H
       clear H
       have p396 : 0 ≤ (x9_1 : Int) := of_decide_eq_true (by first | (with_reducible assumption) | assumption)
       have q396 : x9_1 < (l0.length : Int) := of_decide_eq_true (by first | (with_reducible assumption) | assumption)
       obtain ⟨ad396, e396, hx396_0, hx396_1⟩ := at_T128 HR0.out x9_1 p396 q396
       cases e396
       replace hx396_0 := (HB.out.cell (World.block_lt_of_cell? w _ hx396_0)).trans hx396_0
       replace hx396_1 := (HB.out.cell (World.block_lt_of_cell? w _ hx396_1)).trans hx396_1
       replace p396 := eq_true p396
       replace q396 := eq_true q396
       go_wp2_with (first | ((with_reducible refine gD 6 ?_); refine bxE #[.int .i64 0, .int .i64 0] 128 ?_; intro gb397 hg w12 BK397 hb; have GW397 := gE hg; have GE397 := gE hg; replace HB := hB hb; clear hb hg; have hz13 := cz2 BK397))
       go_roundg k1
       case measure => have := HK1.out; omega
       case rel => exact ⟨(wrap64 (x9_1 + 1)), (by first | rfl | (simp; done) | (simp [*]; done)), H', ⟨by have := HK1.out; omega⟩, ⟨bS⟩⟩
     ·rw [if_neg c5] at H
      exact absurd H (by simp)
    ·rw [if_neg c4] at H
     exact absurd H (by simp)
   ·rw [if_neg c3] at H
    have c3b0 : decide (x9_1 < (l0.length : Int)) = false := decide_eq_false c3
    clear c3
    obtain rfl := Option.some.inj H
    simp only [Option.some.injEq, Prod.mk.injEq] at H
    obtain ⟨rfl⟩ := H
    go_wp2
    go_ret
    exact ⟨eS, bS⟩

/-! ### impl_ObjectDots: function 87 -/
def impl_ObjectDots.l0 : Nat → Int → Int → List (S130) → Int → Int → Int → Int → Int → Option (Int)
 | 0, _, _, _, _, _, _, _, _ => none
 | k + 1, x3, x4, x399000, x399001, x399002, x399003, x399004, x399005 => if x4 < 32 then ((impl_ObjectRow.f k x399000 x399001 x399002 x399003 x399004 x399005 x4).bind fun t399 => ((impl_SpanDots.f k t399).bind fun t402 => (impl_ObjectDots.l0 k (wrap64 (x3 + t402)) (wrap64 (x4 + 1)) x399000 x399001 x399002 x399003 x399004 x399005))) else (some x3)
def impl_ObjectDots.f (k : Nat) (l0_0 : List (S130)) (a0_1 : Int) (a0_2 : Int) (a0_3 : Int) (a0_4 : Int) (a0_5 : Int) : Option (Int) := impl_ObjectDots.l0 k 0 0 l0_0 a0_1 a0_2 a0_3 a0_4 a0_5
theorem impl_ObjectDots.calls (k : Nat) (A0_0 : Option Addr) (c0_0 : Nat) (l0_0 : List (S130)) (a0_1 : Int) (a0_2 : Int) (a0_3 : Int) (a0_4 : Int) (a0_5 : Int) (r : Int) (w : World) (hr0_0 : Kd.C k130 w A0_0 l0_0.length l0_0) (hc0_0 : l0_0.length ≤ c0_0) (h : impl_ObjectDots.f k l0_0 a0_1 a0_2 a0_3 a0_4 a0_5 = some r) :
  Calls Try.prog 87 #[.agg #[.slice A0_0 l0_0.length c0_0, .int .i64 a0_1, .int .i64 a0_2, .int .i64 a0_3, .int .i64 a0_4, .int .i64 a0_5]] w fun e w' => e = .returned (.int .i64 r) ∧ Below w.heap.size w w' := by
 have hu56 := Try.underlying56
 have HR0_0 := Aside0.mk hr0_0
 have HC0_0 := Aside0.mk hc0_0
 clear hr0_0 hc0_0
 have HB := Aside0.mk (Below.refl w.heap.size w)
 have H : (impl_ObjectDots.l0 k 0 0 l0_0 a0_1 a0_2 a0_3 a0_4 a0_5) = some r := h
 clear h
 have H' := Aside0.mk H
 clear H
 go_enter Try.func87, Try.ntmps87
 go_wp2_with (first | ((with_reducible refine gD 1 ?_); refine bxE #[.slice A0_0 l0_0.length c0_0, .int .i64 a0_1, .int .i64 a0_2, .int .i64 a0_3, .int .i64 a0_4, .int .i64 a0_5] 56 ?_; intro gb398 hg w2 BK398 hb; have GW398 := gE hg; have GE398 := gE hg; replace HB := hB hb; clear hb hg))
 go_loopg [3, 4] k (fun kq v3 v4 w' => ∃ (x3_1 : Int) (x4_1 : Int), v3 = .int .i64 x3_1 ∧ v4 = .int .i64 x4_1 ∧ Aside0 (impl_ObjectDots.l0 kq x3_1 x4_1 l0_0 a0_1 a0_2 a0_3 a0_4 a0_5 = some r) ∧ Aside0 (kq ≤ k) ∧ Aside0 (w'.heap[gb398]? = some (.cells #[(.slice A0_0 l0_0.length c0_0), .int .i64 a0_1, .int .i64 a0_2, .int .i64 a0_3, .int .i64 a0_4, .int .i64 a0_5] 56 (0, 0))) ∧ Aside0 (Below w.heap.size w w'))
 case atStart => exact ⟨(0), (0), (by first | rfl | (simp; done) | (simp [*]; done)), (by first | rfl | (simp; done) | (simp [*]; done)), H', ⟨Nat.le_refl _⟩, ⟨kS⟩, ⟨bS⟩⟩
 case round =>
  clear H'
  try clear p2
  obtain ⟨x3_1, x4_1, rfl, rfl, HA, HK1, BK398, HB⟩ := hrel
  cases gk with
  | zero => exact absurd HA.out (by simp [impl_ObjectDots.l0])
  | succ k1 =>
   have H := HA.out
   clear HA
   simp only [impl_ObjectDots.l0] at H
   by_cases c3 : x4_1 < 32
   ·rw [if_pos c3] at H
    have c3b0 : decide (x4_1 < 32) = true := decide_eq_true c3
    clear c3
    replace H := bN H
    obtain ⟨t399, A4, H⟩ := H
    replace H := bN H
    obtain ⟨t402, A5, H⟩ := H
    have H' := Aside0.mk H
    clear H
    have hz6 := cz6 BK398
    go_wp2_with (first | ((with_reducible refine gC 81 ?_); refine cL (some 12) Try.func81 #[.agg #[.slice A0_0 l0_0.length c0_0, .int .i64 a0_1, .int .i64 a0_2, .int .i64 a0_3, .int .i64 a0_4, .int .i64 a0_5], .int .i64 x4_1] ?_; (with_reducible refine (impl_ObjectRow.calls k1 _ _ l0_0 a0_1 a0_2 a0_3 a0_4 a0_5 x4_1 t399 _ ?side1 ?side2 A4.out).mono ?_); (case side1 => exact cS (Kd.C_below HR0_0.out HB.out)); (case side2 => exact HC0_0.out); rintro e w7 ⟨v400, rfl, ho0, hb⟩; refine ⟨_, rfl, ?_⟩; have HO401 := Aside0.mk (Kd.R_lower ho0 (below_size bS)); replace BK398 := kB (g := gb398) hb; replace HB := hB hb; (try clear hb); (try clear hb2); (try clear hk); (try clear hi); (try clear ho0); obtain ⟨Ao8, co8, eo8⟩ := Kd.R_slice HO401.out; subst eo8) | ((with_reducible refine gC 82 ?_); refine cL (some 13) Try.func82 #[.slice Ao8 t399.length co8] ?_; (with_reducible refine (impl_SpanDots.calls k1 _ _ t399 t402 _ ?side1 ?side2 A5.out).mono ?_); (case side1 => exact cS (Kd.R_reads' HO401.out).2.2); (case side2 => exact (Kd.R_reads' HO401.out).2.1); rintro e w9 ⟨rfl, hb⟩; refine ⟨_, rfl, ?_⟩; replace HO401 := Aside0.mk (Kd.R_below (rS HO401) hb); replace BK398 := kB (g := gb398) hb; replace HB := hB hb; (try clear hb); (try clear hb2); (try clear hk); (try clear hi)))
    go_roundg k1
    case measure => have := HK1.out; omega
    case rel => exact ⟨(wrap64 (x3_1 + t402)), (wrap64 (x4_1 + 1)), (by first | rfl | (simp; done) | (simp [*]; done)), (by first | rfl | (simp; done) | (simp [*]; done)), H', ⟨by have := HK1.out; omega⟩, ⟨kS⟩, ⟨bS⟩⟩
   ·rw [if_neg c3] at H
    have c3b0 : decide (x4_1 < 32) = false := decide_eq_false c3
    clear c3
    obtain rfl := Option.some.inj H
    simp only [Option.some.injEq, Prod.mk.injEq] at H
    obtain ⟨rfl⟩ := H
    go_wp2
    go_ret
    exact ⟨eS, bS⟩

/-! ### impl_CountDots: function 88 -/
def impl_CountDots.f (a0_0 : Int) (a0_1 : Int) (a0_2 : Int) (a0_3 : Int) : Option (Int) := (impl_BoxOk.f a0_0 a0_1 a0_2 a0_3).bind fun t404 => (if t404 = true then (some (wrap64 ((wrap64 (a0_2 - a0_0)) * (wrap64 (a0_3 - a0_1))))) else (some 0))
theorem impl_CountDots.calls (a0_0 : Int) (a0_1 : Int) (a0_2 : Int) (a0_3 : Int) (r : Int) (w : World) (h : impl_CountDots.f a0_0 a0_1 a0_2 a0_3 = some r) :
  Calls Try.prog 88 #[.agg #[.int .i64 a0_0, .int .i64 a0_1, .int .i64 a0_2, .int .i64 a0_3]] w fun e w' => e = .returned (.int .i64 r) ∧ Below w.heap.size w w' := by
 have hu52 := Try.underlying52
 have HB := Aside0.mk (Below.refl w.heap.size w)
 have H : ((impl_BoxOk.f a0_0 a0_1 a0_2 a0_3).bind fun t404 => (if t404 = true then (some (wrap64 ((wrap64 (a0_2 - a0_0)) * (wrap64 (a0_3 - a0_1))))) else (some 0))) = some r := h
 clear h
 replace H := bN H
 obtain ⟨t404, A2, H⟩ := H
 by_cases c3 : t404 = true
 ·subst c3
  rw [if_pos rfl] at H
  obtain rfl := Option.some.inj H
  simp only [Option.some.injEq, Prod.mk.injEq] at H
  obtain ⟨rfl⟩ := H
  go_enter Try.func88, Try.ntmps88
  go_wp2_with (first | ((with_reducible refine gD 1 ?_); refine bxE #[.int .i64 a0_0, .int .i64 a0_1, .int .i64 a0_2, .int .i64 a0_3] 52 ?_; intro gb403 hg w4 BK403 hb; have GW403 := gE hg; have GE403 := gE hg; replace HB := hB hb; clear hb hg; have hz5 := cz4 BK403) | ((with_reducible refine gC 141 ?_); refine cL (some 4) Try.func141 #[.agg #[.int .i64 a0_0, .int .i64 a0_1, .int .i64 a0_2, .int .i64 a0_3]] ?_; (with_reducible refine (impl_BoxOk.calls a0_0 a0_1 a0_2 a0_3 _ _ A2.out).mono ?_); rintro e w6 ⟨rfl, hb⟩; refine ⟨_, rfl, ?_⟩; replace BK403 := kB (g := gb403) hb; replace HB := hB hb; (try clear hb); (try clear hb2); (try clear hk); (try clear hi); have hz7 := cz4 BK403))
  go_ret
  exact ⟨eS, bS⟩
 ·obtain rfl := Bool.eq_false_iff.mpr c3
  rw [if_neg nF] at H
  obtain rfl := Option.some.inj H
  simp only [Option.some.injEq, Prod.mk.injEq] at H
  obtain ⟨rfl⟩ := H
  go_enter Try.func88, Try.ntmps88
  go_wp2_with (first | ((with_reducible refine gD 1 ?_); refine bxE #[.int .i64 a0_0, .int .i64 a0_1, .int .i64 a0_2, .int .i64 a0_3] 52 ?_; intro gb403 hg w8 BK403 hb; have GW403 := gE hg; have GE403 := gE hg; replace HB := hB hb; clear hb hg; have hz9 := cz4 BK403) | ((with_reducible refine gC 141 ?_); refine cL (some 4) Try.func141 #[.agg #[.int .i64 a0_0, .int .i64 a0_1, .int .i64 a0_2, .int .i64 a0_3]] ?_; (with_reducible refine (impl_BoxOk.calls a0_0 a0_1 a0_2 a0_3 _ _ A2.out).mono ?_); rintro e w10 ⟨rfl, hb⟩; refine ⟨_, rfl, ?_⟩; replace BK403 := kB (g := gb403) hb; replace HB := hB hb; (try clear hb); (try clear hb2); (try clear hk); (try clear hi)))
  go_ret
  exact ⟨eS, bS⟩

/-! ### laws_FnObjects: function 14 -/
mutual
def laws_FnObjects.l0 : Nat → List Int → Int → Int → List (S130) → Int → Int → Int → Int → Int → Int → Int → Int → Int → Option (Bool)
 | 0, _, _, _, _, _, _, _, _, _, _, _, _, _ => none
 | k + 1, x4, x6, x7, x415000, x415001, x415002, x415003, x415004, x415005, x423000, x423001, x423002, x423003 => if x7 < 32 then ((impl_ObjectRow.f k x415000 x415001 x415002 x415003 x415004 x415005 x7).bind fun t423 => ((impl_SpanDots.f k t423).bind fun t426 => (if 0 ≤ (Int.tmod x7 12) then (if (Int.tmod x7 12) < (x4.length : Int) then ((impl_InsidePath.f k x415000 (Int.tmod (wrap64 ((rd x4 (Int.tmod x7 12)) * (wrap64 (1 + x7)))) 32) x7).bind fun t428 => (if t428 = true then ((impl_InBox.f x415002 x415003 x415004 x415005 (Int.tmod (wrap64 ((rd x4 (Int.tmod x7 12)) * (wrap64 (1 + x7)))) 32) x7).bind fun t429 => (laws_FnObjects.j1 k x4 (wrap64 (x6 + t426)) x7 t423 (Int.tmod (wrap64 ((rd x4 (Int.tmod x7 12)) * (wrap64 (1 + x7)))) 32) t429 x415000 x415001 x415002 x415003 x415004 x415005 x423000 x423001 x423002 x423003)) else (laws_FnObjects.j1 k x4 (wrap64 (x6 + t426)) x7 t423 (Int.tmod (wrap64 ((rd x4 (Int.tmod x7 12)) * (wrap64 (1 + x7)))) 32) false x415000 x415001 x415002 x415003 x415004 x415005 x423000 x423001 x423002 x423003))) else (none)) else (none)))) else ((impl_MoveObject.f k x415000 x415001 x415002 x415003 x415004 x415005 1 1).bind fun bt432 => ((impl_MoveObject.f k bt432.1 bt432.2.1 bt432.2.2.1 bt432.2.2.2.1 bt432.2.2.2.2.1 bt432.2.2.2.2.2.1 (-1) (-1)).bind fun bt442 => ((impl_ObjectOk.f k x415000 x415001 x415002 x415003 x415004 x415005).bind fun t452 => (if t452 = true then ((impl_ObjectDots.f k x415000 x415001 x415002 x415003 x415004 x415005).bind fun t453 => (if x6 = t453 then (if bt432.2.2.2.2.2.2 = true then (if bt442.2.2.2.2.2.2 = true then ((impl_CountDots.f x423000 x423001 x423002 x423003).bind fun t454 => (some (decide (x6 ≤ t454)))) else (some false)) else (some false)) else (some false))) else (some false)))))
def laws_FnObjects.j1 : Nat → List Int → Int → Int → List (S128) → Int → Bool → List (S130) → Int → Int → Int → Int → Int → Int → Int → Int → Int → Option (Bool)
 | 0, _, _, _, _, _, _, _, _, _, _, _, _, _, _, _, _ => none
 | k + 1, x4, x6, x7, x8, x9, x10, x415000, x415001, x415002, x415003, x415004, x415005, x423000, x423001, x423002, x423003 => (impl_InSpans.f k x8 x9).bind fun t430 => (if (x10 != t430) = true then (some false) else (if x10 = true then ((impl_InBox.f x423000 x423001 x423002 x423003 x9 x7).bind fun t431 => (if t431 = true then (laws_FnObjects.l0 k x4 x6 (wrap64 (x7 + 1)) x415000 x415001 x415002 x415003 x415004 x415005 x423000 x423001 x423002 x423003) else (some false))) else (laws_FnObjects.l0 k x4 x6 (wrap64 (x7 + 1)) x415000 x415001 x415002 x415003 x415004 x415005 x423000 x423001 x423002 x423003)))
end
def laws_FnObjects.f (k : Nat) (l0 : List Int) : Option (Bool) := (laws_big.f l0).bind fun t405 => (if t405 = true then (some true) else ((spec_DrawObject.f k l0).bind fun bt406 => ((spec_DrawPlaces.f k l0).bind fun t415 => ((impl_ObjectBox.f k bt406.1 bt406.2.1 bt406.2.2.1 bt406.2.2.2.1 bt406.2.2.2.2.1 bt406.2.2.2.2.2).bind fun bt418 => (laws_FnObjects.l0 k t415 0 0 bt406.1 bt406.2.1 bt406.2.2.1 bt406.2.2.2.1 bt406.2.2.2.2.1 bt406.2.2.2.2.2 bt418.1 bt418.2.1 bt418.2.2.1 bt418.2.2.2)))))
theorem laws_FnObjects.calls (k : Nat) (A0 : Option Addr) (c0 : Nat) (l0 : List Int) (r : Bool) (w : World) (hr0 : Kd.C (Kd.int .u8) w A0 l0.length l0) (hc0 : l0.length ≤ c0) (h : laws_FnObjects.f k l0 = some r) (hT : r = true) :
  Calls Try.prog 14 #[.slice A0 l0.length c0] w fun e w' => e = .returned (.bool r) ∧ Below w.heap.size w w' := by
 have hu56 := Try.underlying56
 have hu52 := Try.underlying52
 have HR0 := Aside0.mk hr0
 have HC0 := Aside0.mk hc0
 clear hr0 hc0
 have HB := Aside0.mk (Below.refl w.heap.size w)
 have H : ((laws_big.f l0).bind fun t405 => (if t405 = true then (some true) else ((spec_DrawObject.f k l0).bind fun bt406 => ((spec_DrawPlaces.f k l0).bind fun t415 => ((impl_ObjectBox.f k bt406.1 bt406.2.1 bt406.2.2.1 bt406.2.2.2.1 bt406.2.2.2.2.1 bt406.2.2.2.2.2).bind fun bt418 => (laws_FnObjects.l0 k t415 0 0 bt406.1 bt406.2.1 bt406.2.2.1 bt406.2.2.2.1 bt406.2.2.2.2.1 bt406.2.2.2.2.2 bt418.1 bt418.2.1 bt418.2.2.1 bt418.2.2.2)))))) = some r := h
 clear h
 replace H := bN H
 obtain ⟨t405, A2, H⟩ := H
 by_cases c3 : t405 = true
 ·subst c3
  rw [if_pos rfl] at H
  obtain rfl := Option.some.inj H
  (try clear hT)
  go_enter Try.func14, Try.ntmps14
  go_wp2_with (first | ((with_reducible refine gC 24 ?_); refine cL (some 16) Try.func24 #[.slice A0 l0.length c0] ?_; (with_reducible refine (laws_big.calls _ _ l0 _ _ ?side1 ?side2 A2.out).mono ?_); (case side1 => repeat (first | exact HR0.out | (with_reducible refine Kd.C_alloc ?_ _) | (with_reducible refine Kd.C_drewN ?_ _) | (with_reducible refine Kd.C_drew ?_))); (case side2 => exact HC0.out); rintro e w' ⟨rfl, ⟨nd, rfl⟩⟩; refine ⟨_, rfl, ?_⟩))
  go_ret
  exact ⟨eS, bS⟩
 ·obtain rfl := Bool.eq_false_iff.mpr c3
  rw [if_neg nF] at H
  replace H := bN H
  obtain ⟨⟨t406, t409, t410, t411, t412, t413⟩, A4, H⟩ := H
  replace H := bN H
  obtain ⟨t415, A5, H⟩ := H
  replace H := bN H
  obtain ⟨⟨t418, t419, t420, t421⟩, A6, H⟩ := H
  have H' := Aside0.mk H
  clear H
  go_enter Try.func14, Try.ntmps14
  go_wp2_with (first | ((with_reducible refine gC 24 ?_); refine cL (some 16) Try.func24 #[.slice A0 l0.length c0] ?_; (with_reducible refine (laws_big.calls _ _ l0 _ _ ?side1 ?side2 A2.out).mono ?_); (case side1 => repeat (first | exact HR0.out | (with_reducible refine Kd.C_alloc ?_ _) | (with_reducible refine Kd.C_drewN ?_ _) | (with_reducible refine Kd.C_drew ?_))); (case side2 => exact HC0.out); rintro e w' ⟨rfl, ⟨nd, rfl⟩⟩; refine ⟨_, rfl, ?_⟩) | ((with_reducible refine gC 80 ?_); refine cL (some 18) Try.func80 #[.slice A0 l0.length c0] ?_; (with_reducible refine (spec_DrawObject.calls k _ _ l0 t406 t409 t410 t411 t412 t413 _ ?side1 ?side2 A4.out).mono ?_); (case side1 => repeat (first | exact HR0.out | (with_reducible refine Kd.C_alloc ?_ _) | (with_reducible refine Kd.C_drewN ?_ _) | (with_reducible refine Kd.C_drew ?_))); (case side2 => exact HC0.out); rintro e w7 ⟨v407, rfl, ho0, hb⟩; refine ⟨_, rfl, ?_⟩; have HO408 := Aside0.mk (Kd.R_lower ho0 (below_size bS)); replace HB := hB hb; (try clear hb); (try clear hb2); (try clear hk); (try clear hi); (try clear ho0)) | ((with_reducible refine gD 3 ?_); refine bxE #[.slice none 0 0, .int .i64 0, .int .i64 0, .int .i64 0, .int .i64 0, .int .i64 0] 56 ?_; intro gb414 hg w8 BK414 hb; have GW414 := gE hg; have GE414 := gE hg; replace HO408 := Aside0.mk (Kd.R_below (rS HO408) hb); replace HB := hB hb; clear hb hg; obtain ⟨Ao9, co9, eo9⟩ := Kd.R_slice HO408.out; subst eo9; have hcz10_0 : w8.cell? ⟨gb414, 0, none⟩ = some (.slice none 0 0) := (blk_cell BK414.out 0).trans rfl; have hcz10_1 : w8.cell? ⟨gb414, 1, none⟩ = some (.int .i64 0) := (blk_cell BK414.out 1).trans rfl; have hcz10_2 : w8.cell? ⟨gb414, 2, none⟩ = some (.int .i64 0) := (blk_cell BK414.out 2).trans rfl; have hcz10_3 : w8.cell? ⟨gb414, 3, none⟩ = some (.int .i64 0) := (blk_cell BK414.out 3).trans rfl; have hcz10_4 : w8.cell? ⟨gb414, 4, none⟩ = some (.int .i64 0) := (blk_cell BK414.out 4).trans rfl; have hcz10_5 : w8.cell? ⟨gb414, 5, none⟩ = some (.int .i64 0) := (blk_cell BK414.out 5).trans rfl; have hfz10_0 := blk_frozen BK414.out 0; have hfz10_1 := blk_frozen BK414.out 1; have hfz10_2 := blk_frozen BK414.out 2; have hfz10_3 := blk_frozen BK414.out 3; have hfz10_4 := blk_frozen BK414.out 4; have hfz10_5 := blk_frozen BK414.out 5) | ((with_reducible refine gC 26 ?_); refine cL (some 20) Try.func26 #[.slice A0 l0.length c0] ?_; (with_reducible refine (spec_DrawPlaces.calls k _ _ l0 t415 _ ?side1 ?side2 A5.out).mono ?_); (case side1 => exact Kd.C_below HR0.out bS); (case side2 => exact HC0.out); rintro e w11 ⟨v416, rfl, ho0, hb⟩; refine ⟨_, rfl, ?_⟩; have HO417 := Aside0.mk (Kd.R_lower ho0 (below_size bS)); replace HO408 := Aside0.mk (Kd.R_below (by (with_reducible repeat (first | apply Kd.R_alloc | apply Kd.R_drewN | apply Kd.R_drew)); exact (Kd.R_mono (Kd.R_far (p := ⟨gb414, 5, none⟩) (Kd.R_far (p := ⟨gb414, 4, none⟩) (Kd.R_far (p := ⟨gb414, 3, none⟩) (Kd.R_far (p := ⟨gb414, 2, none⟩) (Kd.R_far (p := ⟨gb414, 1, none⟩) (Kd.R_far (p := ⟨gb414, 0, none⟩) (Kd.R_types HO408.out BK414.out (by decide)) (fun _ hk => hk.2) (.slice Ao9 t406.length co9)) (fun _ hk => hk.2) (.int .i64 t409)) (fun _ hk => hk.2) (.int .i64 t410)) (fun _ hk => hk.2) (.int .i64 t411)) (fun _ hk => hk.2) (.int .i64 t412)) (fun _ hk => hk.2) (.int .i64 t413)) (fun _ h_ => h_.1))) hb); replace BK414 := Aside0.mk (blk_below (g := gb414) (o := .cells #[.slice Ao9 t406.length co9, .int .i64 t409, .int .i64 t410, .int .i64 t411, .int .i64 t412, .int .i64 t413] 56 (0, 0)) kS hb); replace HB := hB hb; (try clear hb); (try clear hb2); (try clear hk); (try clear hi); (try clear ho0); have hcz12_0 : w11.cell? ⟨gb414, 0, none⟩ = some (.slice Ao9 t406.length co9) := (blk_cell BK414.out 0).trans rfl; have hcz12_1 : w11.cell? ⟨gb414, 1, none⟩ = some (.int .i64 t409) := (blk_cell BK414.out 1).trans rfl; have hcz12_2 : w11.cell? ⟨gb414, 2, none⟩ = some (.int .i64 t410) := (blk_cell BK414.out 2).trans rfl; have hcz12_3 : w11.cell? ⟨gb414, 3, none⟩ = some (.int .i64 t411) := (blk_cell BK414.out 3).trans rfl; have hcz12_4 : w11.cell? ⟨gb414, 4, none⟩ = some (.int .i64 t412) := (blk_cell BK414.out 4).trans rfl; have hcz12_5 : w11.cell? ⟨gb414, 5, none⟩ = some (.int .i64 t413) := (blk_cell BK414.out 5).trans rfl; have hfz12_0 := blk_frozen BK414.out 0; have hfz12_1 := blk_frozen BK414.out 1; have hfz12_2 := blk_frozen BK414.out 2; have hfz12_3 := blk_frozen BK414.out 3; have hfz12_4 := blk_frozen BK414.out 4; have hfz12_5 := blk_frozen BK414.out 5) | ((with_reducible refine gC 41 ?_); refine cL (some 22) Try.func41 #[.agg #[.slice Ao9 t406.length co9, .int .i64 t409, .int .i64 t410, .int .i64 t411, .int .i64 t412, .int .i64 t413]] ?_; (with_reducible refine (impl_ObjectBox.calls k _ _ t406 t409 t410 t411 t412 t413 t418 t419 t420 t421 _ ?side1 ?side2 A6.out).mono ?_); (case side1 => exact cS (Kd.R_reads' HO408.out).2.2); (case side2 => exact (Kd.R_reads' HO408.out).2.1); rintro e w13 ⟨rfl, hb⟩; refine ⟨_, rfl, ?_⟩; replace HO408 := Aside0.mk (Kd.R_below (rS HO408) hb); replace HO417 := Aside0.mk (Kd.R_below (rS HO417) hb); replace BK414 := kB (g := gb414) hb; replace HB := hB hb; (try clear hb); (try clear hb2); (try clear hk); (try clear hi)) | ((with_reducible refine gD 5 ?_); refine bxE #[.int .i64 0, .int .i64 0, .int .i64 0, .int .i64 0] 52 ?_; intro gb422 hg w14 BK422 hb; have GW422 := gE hg; have GE422 := gE hg; have NB414_422 := nL (g := gb414) hg; have NB422_414 := nG (g := gb414) hg; replace HO408 := Aside0.mk (Kd.R_below (rS HO408) hb); replace HO417 := Aside0.mk (Kd.R_below (rS HO417) hb); replace BK414 := kB (g := gb414) hb; replace HB := hB hb; clear hb hg; have hnb15 := NB422_414.out; have hnc15 := NB414_422.out; have hcz16_0 : w14.cell? ⟨gb422, 0, none⟩ = some (.int .i64 0) := (blk_cell BK422.out 0).trans rfl; have hcz16_1 : w14.cell? ⟨gb422, 1, none⟩ = some (.int .i64 0) := (blk_cell BK422.out 1).trans rfl; have hcz16_2 : w14.cell? ⟨gb422, 2, none⟩ = some (.int .i64 0) := (blk_cell BK422.out 2).trans rfl; have hcz16_3 : w14.cell? ⟨gb422, 3, none⟩ = some (.int .i64 0) := (blk_cell BK422.out 3).trans rfl; have hfz16_0 := blk_frozen BK422.out 0; have hfz16_1 := blk_frozen BK422.out 1; have hfz16_2 := blk_frozen BK422.out 2; have hfz16_3 := blk_frozen BK422.out 3))
  go_loopg [6, 7] k (fun kq v6 v7 w' => ∃ (x6_1 : Int) (x7_1 : Int), v6 = .int .i64 x6_1 ∧ v7 = .int .i64 x7_1 ∧ Aside0 (laws_FnObjects.l0 kq t415 x6_1 x7_1 t406 t409 t410 t411 t412 t413 t418 t419 t420 t421 = some r) ∧ Aside0 (kq ≤ k) ∧ Aside0 (Kd.R (Kd.int .i64) 3 w' w.heap.size (fun _ => True) v416 t415) ∧ Aside0 (Kd.R k130 130 w' w.heap.size (fun _ => True) (.slice Ao9 t406.length co9) t406) ∧ Aside0 (w'.heap[gb414]? = some (.cells #[(.slice Ao9 t406.length co9), .int .i64 t409, .int .i64 t410, .int .i64 t411, .int .i64 t412, .int .i64 t413] 56 (0, 0))) ∧ Aside0 (w'.heap[gb422]? = some (.cells #[.int .i64 t418, .int .i64 t419, .int .i64 t420, .int .i64 t421] 52 (0, 0))) ∧ Aside0 (Below w.heap.size w w'))
  case atStart => exact ⟨(0), (0), (by first | rfl | (simp; done) | (simp [*]; done)), (by first | rfl | (simp; done) | (simp [*]; done)), H', ⟨Nat.le_refl _⟩, ⟨by (with_reducible repeat (first | apply Kd.R_alloc | apply Kd.R_drewN | apply Kd.R_drew)); exact Kd.R_mono (Kd.R_far (p := ⟨gb422, 3, none⟩) (Kd.R_far (p := ⟨gb422, 2, none⟩) (Kd.R_far (p := ⟨gb422, 1, none⟩) (Kd.R_far (p := ⟨gb422, 0, none⟩) (Kd.R_types HO417.out BK422.out (by decide)) (fun _ hk => hk.2) (.int .i64 t418)) (fun _ hk => hk.2) (.int .i64 t419)) (fun _ hk => hk.2) (.int .i64 t420)) (fun _ hk => hk.2) (.int .i64 t421)) (fun _ hk => trivial)⟩, ⟨by (with_reducible repeat (first | apply Kd.R_alloc | apply Kd.R_drewN | apply Kd.R_drew)); exact Kd.R_mono (Kd.R_far (p := ⟨gb422, 3, none⟩) (Kd.R_far (p := ⟨gb422, 2, none⟩) (Kd.R_far (p := ⟨gb422, 1, none⟩) (Kd.R_far (p := ⟨gb422, 0, none⟩) (Kd.R_types HO408.out BK422.out (by decide)) (fun _ hk => hk.2) (.int .i64 t418)) (fun _ hk => hk.2) (.int .i64 t419)) (fun _ hk => hk.2) (.int .i64 t420)) (fun _ hk => hk.2) (.int .i64 t421)) (fun _ hk => trivial)⟩, ⟨kS⟩, ⟨kS⟩, ⟨bS⟩⟩
  case round =>
   clear H'
   try clear c1
   try clear c2
   try clear p2
   try clear c3
   try clear c4
   try clear c8
   try clear c14
   try clear c15
   try clear hcz10_0
   try clear hcz10_1
   try clear hcz10_2
   try clear hcz10_3
   try clear hcz10_4
   try clear hcz10_5
   try clear hcz12_0
   try clear hcz12_1
   try clear hcz12_2
   try clear hcz12_3
   try clear hcz12_4
   try clear hcz12_5
   try clear hcz16_0
   try clear hcz16_1
   try clear hcz16_2
   try clear hcz16_3
   try clear hfz10_0
   try clear hfz10_1
   try clear hfz10_2
   try clear hfz10_3
   try clear hfz10_4
   try clear hfz10_5
   try clear hfz12_0
   try clear hfz12_1
   try clear hfz12_2
   try clear hfz12_3
   try clear hfz12_4
   try clear hfz12_5
   try clear hfz16_0
   try clear hfz16_1
   try clear hfz16_2
   try clear hfz16_3
   obtain ⟨x6_1, x7_1, rfl, rfl, HA, HK1, HO_4, HO_415000, BK414, BK422, HB⟩ := hrel
   cases gk with
   | zero => exact absurd HA.out (by simp [laws_FnObjects.l0])
   | succ k1 =>
    have H := HA.out
    clear HA
    simp only [laws_FnObjects.l0] at H
    by_cases c17 : x7_1 < 32
    ·rw [if_pos c17] at H
     have c17b0 : decide (x7_1 < 32) = true := decide_eq_true c17
     clear c17
     replace H := bN H
     obtain ⟨t423, A18, H⟩ := H
     replace H := bN H
     obtain ⟨t426, A19, H⟩ := H
     obtain ⟨ji20, hji20⟩ : ∃ j_ : Int, (Int.tmod x7_1 12) = j_ := ⟨_, rfl⟩
     replace H : (if 0 ≤ (ji20) then (if (ji20) < (t415.length : Int) then ((impl_InsidePath.f k1 t406 (Int.tmod (wrap64 ((rd t415 (ji20)) * (wrap64 (1 + x7_1)))) 32) x7_1).bind fun t428 => (if t428 = true then ((impl_InBox.f t410 t411 t412 t413 (Int.tmod (wrap64 ((rd t415 (ji20)) * (wrap64 (1 + x7_1)))) 32) x7_1).bind fun t429 => (laws_FnObjects.j1 k1 t415 (wrap64 (x6_1 + t426)) x7_1 t423 (Int.tmod (wrap64 ((rd t415 (ji20)) * (wrap64 (1 + x7_1)))) 32) t429 t406 t409 t410 t411 t412 t413 t418 t419 t420 t421)) else (laws_FnObjects.j1 k1 t415 (wrap64 (x6_1 + t426)) x7_1 t423 (Int.tmod (wrap64 ((rd t415 (ji20)) * (wrap64 (1 + x7_1)))) 32) false t406 t409 t410 t411 t412 t413 t418 t419 t420 t421))) else (none)) else (none)) = some r := by first | (rw [hji20] at H; exact H) | (simp only [hji20] at H ⊢; exact H)
     (try rw [hji20] at A18)
     (try rw [hji20] at A19)
     by_cases c21 : 0 ≤ (ji20)
     ·rw [if_pos c21] at H
      have c21b0 : decide (0 ≤ (ji20)) = true := decide_eq_true c21
      clear c21
      by_cases c22 : (ji20) < (t415.length : Int)
      ·rw [if_pos c22] at H
       have c22b0 : decide ((ji20) < (t415.length : Int)) = true := decide_eq_true c22
       clear c22
       have HC23 := Aside0.mk H
       clear H
       have hnb24 := NB414_422.out
       have hnc24 := NB422_414.out
       have hcz25_0 : wr.cell? ⟨gb414, 0, none⟩ = some (.slice Ao9 t406.length co9) := (blk_cell BK414.out 0).trans rfl
       have hcz25_1 : wr.cell? ⟨gb414, 1, none⟩ = some (.int .i64 t409) := (blk_cell BK414.out 1).trans rfl
       have hcz25_2 : wr.cell? ⟨gb414, 2, none⟩ = some (.int .i64 t410) := (blk_cell BK414.out 2).trans rfl
       have hcz25_3 : wr.cell? ⟨gb414, 3, none⟩ = some (.int .i64 t411) := (blk_cell BK414.out 3).trans rfl
       have hcz25_4 : wr.cell? ⟨gb414, 4, none⟩ = some (.int .i64 t412) := (blk_cell BK414.out 4).trans rfl
       have hcz25_5 : wr.cell? ⟨gb414, 5, none⟩ = some (.int .i64 t413) := (blk_cell BK414.out 5).trans rfl
       have hfz25_0 := blk_frozen BK414.out 0
       have hfz25_1 := blk_frozen BK414.out 1
       have hfz25_2 := blk_frozen BK414.out 2
       have hfz25_3 := blk_frozen BK414.out 3
       have hfz25_4 := blk_frozen BK414.out 4
       have hfz25_5 := blk_frozen BK414.out 5
       go_upto_region 13 with (first | ((with_reducible refine gC 81 ?_); refine cL (some 29) Try.func81 #[.agg #[.slice Ao9 t406.length co9, .int .i64 t409, .int .i64 t410, .int .i64 t411, .int .i64 t412, .int .i64 t413], .int .i64 x7_1] ?_; (with_reducible refine (impl_ObjectRow.calls k1 _ _ t406 t409 t410 t411 t412 t413 x7_1 t423 _ ?side1 ?side2 A18.out).mono ?_); (case side1 => exact cS (Kd.R_reads' HO_415000.out).2.2); (case side2 => exact (Kd.R_reads' HO_415000.out).2.1); rintro e w26 ⟨v424, rfl, ho0, hb⟩; refine ⟨_, rfl, ?_⟩; have HO425 := Aside0.mk (Kd.R_lower ho0 (below_size bS)); replace HO_4 := Aside0.mk (Kd.R_below (rS HO_4) hb); replace HO_415000 := Aside0.mk (Kd.R_below (rS HO_415000) hb); replace BK414 := kB (g := gb414) hb; replace BK422 := kB (g := gb422) hb; replace HB := hB hb; (try clear hb); (try clear hb2); (try clear hk); (try clear hi); (try clear ho0); obtain ⟨Ao27, co27, eo27⟩ := Kd.R_slice HO425.out; subst eo27) | ((with_reducible refine gC 82 ?_); refine cL (some 32) Try.func82 #[.slice Ao27 t423.length co27] ?_; (with_reducible refine (impl_SpanDots.calls k1 _ _ t423 t426 _ ?side1 ?side2 A19.out).mono ?_); (case side1 => exact cS (Kd.R_reads' HO425.out).2.2); (case side2 => exact (Kd.R_reads' HO425.out).2.1); rintro e w28 ⟨rfl, hb⟩; refine ⟨_, rfl, ?_⟩; replace HO_4 := Aside0.mk (Kd.R_below (rS HO_4) hb); replace HO_415000 := Aside0.mk (Kd.R_below (rS HO_415000) hb); replace HO425 := Aside0.mk (Kd.R_below (rS HO425) hb); replace BK414 := kB (g := gb414) hb; replace BK422 := kB (g := gb422) hb; replace HB := hB hb; (try clear hb); (try clear hb2); (try clear hk); (try clear hi); obtain ⟨Ao29, co29, eo29⟩ := Kd.R_slice HO_4.out; subst eo29; have p427 : 0 ≤ ((ji20) : Int) := of_decide_eq_true (by first | (with_reducible assumption) | assumption); have q427 : (ji20) < (t415.length : Int) := of_decide_eq_true (by first | (with_reducible assumption) | assumption); obtain ⟨ad427, e427, hx427_0⟩ := Kd.at_int (Kd.R_reads' HO_4.out).2.2 (ji20) p427 q427; cases e427; replace p427 := eq_true p427; replace q427 := eq_true q427))
       (try simp only [Act.put, List.setIfInBounds_toArray, List.set_cons_zero, List.set_cons_succ])
       go_cut [10] (fun v10 wc => ∃ (kq : Nat) (x10_22 : Bool), v10 = .bool x10_22 ∧ Aside0 (laws_FnObjects.j1 kq t415 (wrap64 (x6_1 + t426)) x7_1 t423 (Int.tmod (wrap64 ((rd t415 (ji20)) * (wrap64 (1 + x7_1)))) 32) x10_22 t406 t409 t410 t411 t412 t413 t418 t419 t420 t421 = some r) ∧ Aside0 (kq ≤ k1) ∧ Aside0 (Kd.R (Kd.int .i64) 3 wc w.heap.size (fun _ => True) (.slice (some ad427) t415.length co29) t415) ∧ Aside0 (Kd.R k128 128 wc w.heap.size (fun _ => True) (.slice Ao27 t423.length co27) t423) ∧ Aside0 (Kd.R k130 130 wc w.heap.size (fun _ => True) (.slice Ao9 t406.length co9) t406) ∧ Aside0 (wc.heap[gb414]? = some (.cells #[(.slice Ao9 t406.length co9), .int .i64 t409, .int .i64 t410, .int .i64 t411, .int .i64 t412, .int .i64 t413] 56 (0, 0))) ∧ Aside0 (wc.heap[gb422]? = some (.cells #[.int .i64 t418, .int .i64 t419, .int .i64 t420, .int .i64 t421] 52 (0, 0))) ∧ Aside0 (Below w.heap.size w wc))
       case first =>
        have H := HC23.out
        clear HC23
        replace H := bN H
        obtain ⟨t428, A30, H⟩ := H
        by_cases c31 : t428 = true
        ·subst c31
         rw [if_pos rfl] at H
         replace H := bN H
         obtain ⟨t429, A32, H⟩ := H
         have H' := Aside0.mk H
         clear H
         have hnb33 := NB414_422.out
         have hnc33 := NB422_414.out
         have hcz34_0 : w28.cell? ⟨gb414, 0, none⟩ = some (.slice Ao9 t406.length co9) := (blk_cell BK414.out 0).trans rfl
         have hcz34_1 : w28.cell? ⟨gb414, 1, none⟩ = some (.int .i64 t409) := (blk_cell BK414.out 1).trans rfl
         have hcz34_2 : w28.cell? ⟨gb414, 2, none⟩ = some (.int .i64 t410) := (blk_cell BK414.out 2).trans rfl
         have hcz34_3 : w28.cell? ⟨gb414, 3, none⟩ = some (.int .i64 t411) := (blk_cell BK414.out 3).trans rfl
         have hcz34_4 : w28.cell? ⟨gb414, 4, none⟩ = some (.int .i64 t412) := (blk_cell BK414.out 4).trans rfl
         have hcz34_5 : w28.cell? ⟨gb414, 5, none⟩ = some (.int .i64 t413) := (blk_cell BK414.out 5).trans rfl
         have hfz34_0 := blk_frozen BK414.out 0
         have hfz34_1 := blk_frozen BK414.out 1
         have hfz34_2 := blk_frozen BK414.out 2
         have hfz34_3 := blk_frozen BK414.out 3
         have hfz34_4 := blk_frozen BK414.out 4
         have hfz34_5 := blk_frozen BK414.out 5
         go_wp2_with (first | ((with_reducible refine gC 83 ?_); refine goesL_ (some 47) rfl rfl Try.func83 (by kernel_rfl) rfl #[.slice Ao9 t406.length co9, .int .i64 (Int.tmod (wrap64 ((rd t415 (ji20)) * (wrap64 (1 + x7_1)))) 32), .int .i64 x7_1] rfl (by (try simp only [List.map_toArray, List.map_cons, List.map_nil]); first | done | (simp only [hji20]; rfl) | rfl | (simp only [List.length_drop, List.length_take]; rfl)) ?_; (with_reducible refine (impl_InsidePath.calls k1 _ _ t406 (Int.tmod (wrap64 ((rd t415 (ji20)) * (wrap64 (1 + x7_1)))) 32) x7_1 _ _ ?side1 ?side2 A30.out).mono ?_); (case side1 => exact cS (Kd.R_reads' HO_415000.out).2.2); (case side2 => exact (Kd.R_reads' HO_415000.out).2.1); rintro e w35 ⟨rfl, hb⟩; refine ⟨_, rfl, ?_⟩; replace HO_4 := Aside0.mk (Kd.R_below (rS HO_4) hb); replace HO_415000 := Aside0.mk (Kd.R_below (rS HO_415000) hb); replace HO425 := Aside0.mk (Kd.R_below (rS HO425) hb); replace BK414 := kB (g := gb414) hb; replace BK422 := kB (g := gb422) hb; replace HB := hB hb; (try clear hb); (try clear hb2); (try clear hk); (try clear hi); have hcz36_0 : w35.cell? ⟨gb414, 0, none⟩ = some (.slice Ao9 t406.length co9) := (blk_cell BK414.out 0).trans rfl; have hcz36_1 : w35.cell? ⟨gb414, 1, none⟩ = some (.int .i64 t409) := (blk_cell BK414.out 1).trans rfl; have hcz36_2 : w35.cell? ⟨gb414, 2, none⟩ = some (.int .i64 t410) := (blk_cell BK414.out 2).trans rfl; have hcz36_3 : w35.cell? ⟨gb414, 3, none⟩ = some (.int .i64 t411) := (blk_cell BK414.out 3).trans rfl; have hcz36_4 : w35.cell? ⟨gb414, 4, none⟩ = some (.int .i64 t412) := (blk_cell BK414.out 4).trans rfl; have hcz36_5 : w35.cell? ⟨gb414, 5, none⟩ = some (.int .i64 t413) := (blk_cell BK414.out 5).trans rfl; have hfz36_0 := blk_frozen BK414.out 0; have hfz36_1 := blk_frozen BK414.out 1; have hfz36_2 := blk_frozen BK414.out 2; have hfz36_3 := blk_frozen BK414.out 3; have hfz36_4 := blk_frozen BK414.out 4; have hfz36_5 := blk_frozen BK414.out 5) | (go_at_call 84; (with_reducible refine (impl_InBox.calls t410 t411 t412 t413 (Int.tmod (wrap64 ((rd t415 (ji20)) * (wrap64 (1 + x7_1)))) 32) x7_1 t429 _ A32.out).mono ?_); rintro e w37 ⟨rfl, hb⟩; replace HO_4 := Aside0.mk (Kd.R_below (rS HO_4) hb); replace HO_415000 := Aside0.mk (Kd.R_below (rS HO_415000) hb); replace HO425 := Aside0.mk (Kd.R_below (rS HO425) hb); replace BK414 := kB (g := gb414) hb; replace BK422 := kB (g := gb422) hb; replace HB := hB hb; (try clear hb); (try clear hb2); (try clear hk); (try clear hi)))
         go_meet
         case rel => exact ⟨_, (t429), (by first | rfl | (simp; done) | (simp [*]; done)), H', ⟨by have := HK1.out; first | omega | exact Nat.le_refl _⟩, ⟨by (with_reducible repeat (first | apply Kd.R_alloc | apply Kd.R_drewN | apply Kd.R_drew)); exact HO_4.out⟩, ⟨by (with_reducible repeat (first | apply Kd.R_alloc | apply Kd.R_drewN | apply Kd.R_drew)); exact HO425.out⟩, ⟨by (with_reducible repeat (first | apply Kd.R_alloc | apply Kd.R_drewN | apply Kd.R_drew)); exact HO_415000.out⟩, ⟨kS⟩, ⟨kS⟩, ⟨bS⟩⟩
        ·obtain rfl := Bool.eq_false_iff.mpr c31
         rw [if_neg nF] at H
         have H' := Aside0.mk H
         clear H
         have hnb38 := NB414_422.out
         have hnc38 := NB422_414.out
         have hcz39_0 : w28.cell? ⟨gb414, 0, none⟩ = some (.slice Ao9 t406.length co9) := (blk_cell BK414.out 0).trans rfl
         have hcz39_1 : w28.cell? ⟨gb414, 1, none⟩ = some (.int .i64 t409) := (blk_cell BK414.out 1).trans rfl
         have hcz39_2 : w28.cell? ⟨gb414, 2, none⟩ = some (.int .i64 t410) := (blk_cell BK414.out 2).trans rfl
         have hcz39_3 : w28.cell? ⟨gb414, 3, none⟩ = some (.int .i64 t411) := (blk_cell BK414.out 3).trans rfl
         have hcz39_4 : w28.cell? ⟨gb414, 4, none⟩ = some (.int .i64 t412) := (blk_cell BK414.out 4).trans rfl
         have hcz39_5 : w28.cell? ⟨gb414, 5, none⟩ = some (.int .i64 t413) := (blk_cell BK414.out 5).trans rfl
         have hfz39_0 := blk_frozen BK414.out 0
         have hfz39_1 := blk_frozen BK414.out 1
         have hfz39_2 := blk_frozen BK414.out 2
         have hfz39_3 := blk_frozen BK414.out 3
         have hfz39_4 := blk_frozen BK414.out 4
         have hfz39_5 := blk_frozen BK414.out 5
         go_wp2_with (first | ((with_reducible refine gC 83 ?_); refine goesL_ (some 47) rfl rfl Try.func83 (by kernel_rfl) rfl #[.slice Ao9 t406.length co9, .int .i64 (Int.tmod (wrap64 ((rd t415 (ji20)) * (wrap64 (1 + x7_1)))) 32), .int .i64 x7_1] rfl (by (try simp only [List.map_toArray, List.map_cons, List.map_nil]); first | done | (simp only [hji20]; rfl) | rfl | (simp only [List.length_drop, List.length_take]; rfl)) ?_; (with_reducible refine (impl_InsidePath.calls k1 _ _ t406 (Int.tmod (wrap64 ((rd t415 (ji20)) * (wrap64 (1 + x7_1)))) 32) x7_1 _ _ ?side1 ?side2 A30.out).mono ?_); (case side1 => exact cS (Kd.R_reads' HO_415000.out).2.2); (case side2 => exact (Kd.R_reads' HO_415000.out).2.1); rintro e w40 ⟨rfl, hb⟩; refine ⟨_, rfl, ?_⟩; replace HO_4 := Aside0.mk (Kd.R_below (rS HO_4) hb); replace HO_415000 := Aside0.mk (Kd.R_below (rS HO_415000) hb); replace HO425 := Aside0.mk (Kd.R_below (rS HO425) hb); replace BK414 := kB (g := gb414) hb; replace BK422 := kB (g := gb422) hb; replace HB := hB hb; (try clear hb); (try clear hb2); (try clear hk); (try clear hi)))
         go_meet
         case rel => exact ⟨_, (false), (by first | rfl | (simp; done) | (simp [*]; done)), H', ⟨by have := HK1.out; first | omega | exact Nat.le_refl _⟩, ⟨by (with_reducible repeat (first | apply Kd.R_alloc | apply Kd.R_drewN | apply Kd.R_drew)); exact HO_4.out⟩, ⟨by (with_reducible repeat (first | apply Kd.R_alloc | apply Kd.R_drewN | apply Kd.R_drew)); exact HO425.out⟩, ⟨by (with_reducible repeat (first | apply Kd.R_alloc | apply Kd.R_drewN | apply Kd.R_drew)); exact HO_415000.out⟩, ⟨kS⟩, ⟨kS⟩, ⟨bS⟩⟩
       case rest =>
        clear HC23
        try clear c1
        try clear c2
        try clear p2
        try clear c3
        try clear c4
        try clear p4
        try clear q4
        try clear hx4
        try clear p6
        try clear c8
        try clear c14
        try clear c15
        try clear c17
        try clear c17b0
        try clear c21
        try clear c21b0
        try clear c22
        try clear c22b0
        try clear c24
        try clear c26
        try clear c31
        try clear c33
        try clear c38
        try clear hcz10_0
        try clear hcz10_1
        try clear hcz10_2
        try clear hcz10_3
        try clear hcz10_4
        try clear hcz10_5
        try clear hcz12_0
        try clear hcz12_1
        try clear hcz12_2
        try clear hcz12_3
        try clear hcz12_4
        try clear hcz12_5
        try clear hcz16_0
        try clear hcz16_1
        try clear hcz16_2
        try clear hcz16_3
        try clear hcz25_0
        try clear hcz25_1
        try clear hcz25_2
        try clear hcz25_3
        try clear hcz25_4
        try clear hcz25_5
        try clear hcz34_0
        try clear hcz34_1
        try clear hcz34_2
        try clear hcz34_3
        try clear hcz34_4
        try clear hcz34_5
        try clear hcz36_0
        try clear hcz36_1
        try clear hcz36_2
        try clear hcz36_3
        try clear hcz36_4
        try clear hcz36_5
        try clear hcz39_0
        try clear hcz39_1
        try clear hcz39_2
        try clear hcz39_3
        try clear hcz39_4
        try clear hcz39_5
        try clear hfz10_0
        try clear hfz10_1
        try clear hfz10_2
        try clear hfz10_3
        try clear hfz10_4
        try clear hfz10_5
        try clear hfz12_0
        try clear hfz12_1
        try clear hfz12_2
        try clear hfz12_3
        try clear hfz12_4
        try clear hfz12_5
        try clear hfz16_0
        try clear hfz16_1
        try clear hfz16_2
        try clear hfz16_3
        try clear hfz25_0
        try clear hfz25_1
        try clear hfz25_2
        try clear hfz25_3
        try clear hfz25_4
        try clear hfz25_5
        try clear hfz34_0
        try clear hfz34_1
        try clear hfz34_2
        try clear hfz34_3
        try clear hfz34_4
        try clear hfz34_5
        try clear hfz36_0
        try clear hfz36_1
        try clear hfz36_2
        try clear hfz36_3
        try clear hfz36_4
        try clear hfz36_5
        try clear hfz39_0
        try clear hfz39_1
        try clear hfz39_2
        try clear hfz39_3
        try clear hfz39_4
        try clear hfz39_5
        try clear hx427_0
        try clear p2
        try clear p427
        try clear q427
        obtain ⟨kq, x10_22, rfl, HA, HJ22, HO_4, HO_8, HO_415000, BK414, BK422, HB⟩ := hcut
        cases kq with
        | zero => exact absurd HA.out (by simp [laws_FnObjects.j1])
        | succ kj22 =>
         have H := HA.out
         clear HA
         simp only [laws_FnObjects.j1] at H
         replace H := bN H
         obtain ⟨t430, A41, H⟩ := H
         by_cases c42 : (x10_22 != t430) = true
         ·rw [if_pos c42] at H; exact absurd ((Option.some.inj H).trans hT) (by decide)
         ·rw [if_neg c42] at H
          have c42b0 : (x10_22 != t430) = false := by simpa using c42
          (try (have c42b1 : decide (x10_22 = t430) = true := by simpa using c42))
          (try (have c42b2 : (x10_22 == t430) = true := by simpa using c42))
          clear c42
          by_cases c43 : x10_22 = true
          ·subst c43
           rw [if_pos rfl] at H
           replace H := bN H
           obtain ⟨t431, A44, H⟩ := H
           by_cases c45 : t431 = true
           ·subst c45
            rw [if_pos rfl] at H
            have H' := Aside0.mk H
            clear H
            go_wp2_with (first | ((with_reducible refine gC 85 ?_); refine goesL_ (some 58) rfl rfl Try.func85 (by kernel_rfl) rfl #[.slice Ao27 t423.length co27, .int .i64 (Int.tmod (wrap64 ((rd t415 (ji20)) * (wrap64 (1 + x7_1)))) 32)] rfl (by (try simp only [List.map_toArray, List.map_cons, List.map_nil]); first | done | (simp only [hji20]; rfl) | rfl | (simp only [List.length_drop, List.length_take]; rfl)) ?_; (with_reducible refine (impl_InSpans.calls kj22 _ _ t423 (Int.tmod (wrap64 ((rd t415 (ji20)) * (wrap64 (1 + x7_1)))) 32) t430 _ ?side1 ?side2 A41.out).mono ?_); (case side1 => exact cS (Kd.R_reads' HO_8.out).2.2); (case side2 => exact (Kd.R_reads' HO_8.out).2.1); rintro e w46 ⟨rfl, hb⟩; refine ⟨_, rfl, ?_⟩; replace HO_4 := Aside0.mk (Kd.R_below (rS HO_4) hb); replace HO_8 := Aside0.mk (Kd.R_below (rS HO_8) hb); replace HO_415000 := Aside0.mk (Kd.R_below (rS HO_415000) hb); replace BK414 := kB (g := gb414) hb; replace BK422 := kB (g := gb422) hb; replace HB := hB hb; (try clear hb); (try clear hb2); (try clear hk); (try clear hi); have hnb47 := NB422_414.out; have hnc47 := NB414_422.out; have hz48 := cz4 BK422) | (go_at_call 84; (with_reducible refine (impl_InBox.calls t418 t419 t420 t421 (Int.tmod (wrap64 ((rd t415 (ji20)) * (wrap64 (1 + x7_1)))) 32) x7_1 _ _ A44.out).mono ?_); rintro e w49 ⟨rfl, hb⟩; replace HO_4 := Aside0.mk (Kd.R_below (rS HO_4) hb); replace HO_8 := Aside0.mk (Kd.R_below (rS HO_8) hb); replace HO_415000 := Aside0.mk (Kd.R_below (rS HO_415000) hb); replace BK414 := kB (g := gb414) hb; replace BK422 := kB (g := gb422) hb; replace HB := hB hb; (try clear hb); (try clear hb2); (try clear hk); (try clear hi)))
            go_roundg kj22
            case measure => have := HK1.out; have := HJ22.out; omega
            case rel => exact ⟨((wrap64 (x6_1 + t426))), (wrap64 (x7_1 + 1)), (by first | rfl | (simp; done) | (simp [*]; done)), (by first | rfl | (simp; done) | (simp [*]; done)), H', ⟨by have := HK1.out; have := HJ22.out; omega⟩, ⟨by (with_reducible repeat (first | apply Kd.R_alloc | apply Kd.R_drewN | apply Kd.R_drew)); exact HO_4.out⟩, ⟨by (with_reducible repeat (first | apply Kd.R_alloc | apply Kd.R_drewN | apply Kd.R_drew)); exact HO_415000.out⟩, ⟨kS⟩, ⟨kS⟩, ⟨bS⟩⟩
           ·obtain rfl := Bool.eq_false_iff.mpr c45
            rw [if_neg nF] at H
            exact absurd ((Option.some.inj H).trans hT) (by decide)
          ·obtain rfl := Bool.eq_false_iff.mpr c43
           rw [if_neg nF] at H
           have H' := Aside0.mk H
           clear H
           go_wp2_with (first | ((with_reducible refine gC 85 ?_); refine goesL_ (some 58) rfl rfl Try.func85 (by kernel_rfl) rfl #[.slice Ao27 t423.length co27, .int .i64 (Int.tmod (wrap64 ((rd t415 (ji20)) * (wrap64 (1 + x7_1)))) 32)] rfl (by (try simp only [List.map_toArray, List.map_cons, List.map_nil]); first | done | (simp only [hji20]; rfl) | rfl | (simp only [List.length_drop, List.length_take]; rfl)) ?_; (with_reducible refine (impl_InSpans.calls kj22 _ _ t423 (Int.tmod (wrap64 ((rd t415 (ji20)) * (wrap64 (1 + x7_1)))) 32) t430 _ ?side1 ?side2 A41.out).mono ?_); (case side1 => exact cS (Kd.R_reads' HO_8.out).2.2); (case side2 => exact (Kd.R_reads' HO_8.out).2.1); rintro e w50 ⟨rfl, hb⟩; refine ⟨_, rfl, ?_⟩; replace HO_4 := Aside0.mk (Kd.R_below (rS HO_4) hb); replace HO_8 := Aside0.mk (Kd.R_below (rS HO_8) hb); replace HO_415000 := Aside0.mk (Kd.R_below (rS HO_415000) hb); replace BK414 := kB (g := gb414) hb; replace BK422 := kB (g := gb422) hb; replace HB := hB hb; (try clear hb); (try clear hb2); (try clear hk); (try clear hi)))
           go_roundg kj22
           case measure => have := HK1.out; have := HJ22.out; omega
           case rel => exact ⟨((wrap64 (x6_1 + t426))), (wrap64 (x7_1 + 1)), (by first | rfl | (simp; done) | (simp [*]; done)), (by first | rfl | (simp; done) | (simp [*]; done)), H', ⟨by have := HK1.out; have := HJ22.out; omega⟩, ⟨by (with_reducible repeat (first | apply Kd.R_alloc | apply Kd.R_drewN | apply Kd.R_drew)); exact HO_4.out⟩, ⟨by (with_reducible repeat (first | apply Kd.R_alloc | apply Kd.R_drewN | apply Kd.R_drew)); exact HO_415000.out⟩, ⟨kS⟩, ⟨kS⟩, ⟨bS⟩⟩
      ·rw [if_neg c22] at H
       exact absurd H (by simp)
     ·rw [if_neg c21] at H
      exact absurd H (by simp)
    ·rw [if_neg c17] at H
     have c17b0 : decide (x7_1 < 32) = false := decide_eq_false c17
     clear c17
     replace H := bN H
     obtain ⟨⟨t432, t435, t436, t437, t438, t439, t440⟩, A51, H⟩ := H
     replace H := bN H
     obtain ⟨⟨t442, t445, t446, t447, t448, t449, t450⟩, A52, H⟩ := H
     replace H := bN H
     obtain ⟨t452, A53, H⟩ := H
     by_cases c54 : t452 = true
     ·subst c54
      rw [if_pos rfl] at H
      replace H := bN H
      obtain ⟨t453, A55, H⟩ := H
      by_cases c56 : x6_1 = t453
      ·rw [if_pos c56] at H
       have c56b0 : (x6_1 == t453) = true := beq_iff_eq.mpr c56
       have c56b1 : (x6_1 != t453) = false := bne_eq_false_iff_eq.mpr c56
       clear c56
       by_cases c57 : t440 = true
       ·subst c57
        rw [if_pos rfl] at H
        by_cases c58 : t450 = true
        ·subst c58
         rw [if_pos rfl] at H
         replace H := bN H
         obtain ⟨t454, A59, H⟩ := H
         obtain rfl := Option.some.inj H
         (try clear hT)
         have hnb60 := NB414_422.out
         have hnc60 := NB422_414.out
         have hz61 := cz6 BK414
         go_wp2_with (first | ((with_reducible refine gC 54 ?_); refine cL (some 72) Try.func54 #[.agg #[.slice Ao9 t406.length co9, .int .i64 t409, .int .i64 t410, .int .i64 t411, .int .i64 t412, .int .i64 t413], .int .i64 1, .int .i64 1] ?_; (with_reducible refine (impl_MoveObject.calls k1 _ _ t406 t409 t410 t411 t412 t413 1 1 t432 t435 t436 t437 t438 t439 _ _ ?side1 ?side2 A51.out).mono ?_); (case side1 => exact cS (Kd.R_reads' HO_415000.out).2.2); (case side2 => exact (Kd.R_reads' HO_415000.out).2.1); rintro e w62 ⟨v433, rfl, ho0, hb⟩; refine ⟨_, rfl, ?_⟩; have HO434 := Aside0.mk (Kd.R_lower (Kd.R_new' ho0 (Kd.R_lt (rS HO_415000))) (below_size bS)); replace HO_4 := Aside0.mk (Kd.R_below (rS HO_4) hb); replace HO_415000 := Aside0.mk (Kd.R_elder' (rS HO_415000) (Kd.R_base ho0) hb); replace BK414 := kB (g := gb414) hb; replace BK422 := kB (g := gb422) hb; replace HB := hB hb; (try clear hb); (try clear hb2); (try clear hk); (try clear hi); (try clear ho0)) | ((with_reducible refine gD 11 ?_); refine bxE #[.slice none 0 0, .int .i64 0, .int .i64 0, .int .i64 0, .int .i64 0, .int .i64 0] 56 ?_; intro gb441 hg w63 BK441 hb; have GW441 := gE hg; have GE441 := gE hg; have NB414_441 := nL (g := gb414) hg; have NB441_414 := nG (g := gb414) hg; have NB422_441 := nL (g := gb422) hg; have NB441_422 := nG (g := gb422) hg; replace HO_4 := Aside0.mk (Kd.R_below (rS HO_4) hb); replace HO_415000 := Aside0.mk (Kd.R_below (rS HO_415000) hb); replace HO434 := Aside0.mk (Kd.R_below (rS HO434) hb); replace BK414 := kB (g := gb414) hb; replace BK422 := kB (g := gb422) hb; replace HB := hB hb; clear hb hg; obtain ⟨Ao64, co64, eo64⟩ := Kd.R_slice HO434.out; subst eo64; have hnb65 := NB441_414.out; have hnc65 := NB414_441.out; have hnb66 := NB441_422.out; have hnc66 := NB422_441.out; have hz67 := cz6 BK441) | ((with_reducible refine gC 54 ?_); refine cL (some 77) Try.func54 #[.agg #[.slice Ao64 t432.length co64, .int .i64 t435, .int .i64 t436, .int .i64 t437, .int .i64 t438, .int .i64 t439], .int .i64 (-1), .int .i64 (-1)] ?_; (with_reducible refine (impl_MoveObject.calls k1 _ _ t432 t435 t436 t437 t438 t439 (-1) (-1) t442 t445 t446 t447 t448 t449 _ _ ?side1 ?side2 A52.out).mono ?_); (case side1 => refine (Kd.R_reads' (e := 130) (base := w.heap.size) (ok := fun k_ => (True ∧ some k_ ≠ (.slice Ao9 t406.length co9 : Value).ownBlock)) (n := t432.length) (c := co64) ?_).2.2; exact (by (with_reducible repeat (first | apply Kd.R_alloc | apply Kd.R_drewN | apply Kd.R_drew)); exact (Kd.R_mono (Kd.R_far (p := ⟨gb441, 5, none⟩) (Kd.R_far (p := ⟨gb441, 4, none⟩) (Kd.R_far (p := ⟨gb441, 3, none⟩) (Kd.R_far (p := ⟨gb441, 2, none⟩) (Kd.R_far (p := ⟨gb441, 1, none⟩) (Kd.R_far (p := ⟨gb441, 0, none⟩) (Kd.R_types HO434.out BK441.out (by decide)) (fun _ hk => hk.2) (.slice Ao64 t432.length co64)) (fun _ hk => hk.2) (.int .i64 t435)) (fun _ hk => hk.2) (.int .i64 t436)) (fun _ hk => hk.2) (.int .i64 t437)) (fun _ hk => hk.2) (.int .i64 t438)) (fun _ hk => hk.2) (.int .i64 t439)) (fun _ h_ => h_.1)))); (case side2 => exact (Kd.R_reads' HO434.out).2.1); rintro e w68 ⟨v443, rfl, ho0, hb⟩; refine ⟨_, rfl, ?_⟩; have HO444 := Aside0.mk (Kd.R_lower (Kd.R_new' (Kd.R_new' ho0 (Kd.R_lt (by (with_reducible repeat (first | apply Kd.R_alloc | apply Kd.R_drewN | apply Kd.R_drew)); exact (Kd.R_mono (Kd.R_far (p := ⟨gb441, 5, none⟩) (Kd.R_far (p := ⟨gb441, 4, none⟩) (Kd.R_far (p := ⟨gb441, 3, none⟩) (Kd.R_far (p := ⟨gb441, 2, none⟩) (Kd.R_far (p := ⟨gb441, 1, none⟩) (Kd.R_far (p := ⟨gb441, 0, none⟩) (Kd.R_types HO_415000.out BK441.out (by decide)) (fun _ hk => hk.2) (.slice Ao64 t432.length co64)) (fun _ hk => hk.2) (.int .i64 t435)) (fun _ hk => hk.2) (.int .i64 t436)) (fun _ hk => hk.2) (.int .i64 t437)) (fun _ hk => hk.2) (.int .i64 t438)) (fun _ hk => hk.2) (.int .i64 t439)) (fun _ h_ => h_.1))))) (Kd.R_lt (by (with_reducible repeat (first | apply Kd.R_alloc | apply Kd.R_drewN | apply Kd.R_drew)); exact (Kd.R_mono (Kd.R_far (p := ⟨gb441, 5, none⟩) (Kd.R_far (p := ⟨gb441, 4, none⟩) (Kd.R_far (p := ⟨gb441, 3, none⟩) (Kd.R_far (p := ⟨gb441, 2, none⟩) (Kd.R_far (p := ⟨gb441, 1, none⟩) (Kd.R_far (p := ⟨gb441, 0, none⟩) (Kd.R_types HO434.out BK441.out (by decide)) (fun _ hk => hk.2) (.slice Ao64 t432.length co64)) (fun _ hk => hk.2) (.int .i64 t435)) (fun _ hk => hk.2) (.int .i64 t436)) (fun _ hk => hk.2) (.int .i64 t437)) (fun _ hk => hk.2) (.int .i64 t438)) (fun _ hk => hk.2) (.int .i64 t439)) (fun _ h_ => h_.1))))) (below_size bS)); replace HO_4 := Aside0.mk (Kd.R_below (by (with_reducible repeat (first | apply Kd.R_alloc | apply Kd.R_drewN | apply Kd.R_drew)); exact (Kd.R_mono (Kd.R_far (p := ⟨gb441, 5, none⟩) (Kd.R_far (p := ⟨gb441, 4, none⟩) (Kd.R_far (p := ⟨gb441, 3, none⟩) (Kd.R_far (p := ⟨gb441, 2, none⟩) (Kd.R_far (p := ⟨gb441, 1, none⟩) (Kd.R_far (p := ⟨gb441, 0, none⟩) (Kd.R_types HO_4.out BK441.out (by decide)) (fun _ hk => hk.2) (.slice Ao64 t432.length co64)) (fun _ hk => hk.2) (.int .i64 t435)) (fun _ hk => hk.2) (.int .i64 t436)) (fun _ hk => hk.2) (.int .i64 t437)) (fun _ hk => hk.2) (.int .i64 t438)) (fun _ hk => hk.2) (.int .i64 t439)) (fun _ h_ => h_.1))) hb); replace HO_415000 := Aside0.mk (Kd.R_elder' (by (with_reducible repeat (first | apply Kd.R_alloc | apply Kd.R_drewN | apply Kd.R_drew)); exact (Kd.R_mono (Kd.R_far (p := ⟨gb441, 5, none⟩) (Kd.R_far (p := ⟨gb441, 4, none⟩) (Kd.R_far (p := ⟨gb441, 3, none⟩) (Kd.R_far (p := ⟨gb441, 2, none⟩) (Kd.R_far (p := ⟨gb441, 1, none⟩) (Kd.R_far (p := ⟨gb441, 0, none⟩) (Kd.R_types HO_415000.out BK441.out (by decide)) (fun _ hk => hk.2) (.slice Ao64 t432.length co64)) (fun _ hk => hk.2) (.int .i64 t435)) (fun _ hk => hk.2) (.int .i64 t436)) (fun _ hk => hk.2) (.int .i64 t437)) (fun _ hk => hk.2) (.int .i64 t438)) (fun _ hk => hk.2) (.int .i64 t439)) (fun _ h_ => h_.1))) (Kd.R_base ho0) hb); replace HO434 := Aside0.mk (Kd.R_elder' (by (with_reducible repeat (first | apply Kd.R_alloc | apply Kd.R_drewN | apply Kd.R_drew)); exact (Kd.R_mono (Kd.R_far (p := ⟨gb441, 5, none⟩) (Kd.R_far (p := ⟨gb441, 4, none⟩) (Kd.R_far (p := ⟨gb441, 3, none⟩) (Kd.R_far (p := ⟨gb441, 2, none⟩) (Kd.R_far (p := ⟨gb441, 1, none⟩) (Kd.R_far (p := ⟨gb441, 0, none⟩) (Kd.R_types HO434.out BK441.out (by decide)) (fun _ hk => hk.2) (.slice Ao64 t432.length co64)) (fun _ hk => hk.2) (.int .i64 t435)) (fun _ hk => hk.2) (.int .i64 t436)) (fun _ hk => hk.2) (.int .i64 t437)) (fun _ hk => hk.2) (.int .i64 t438)) (fun _ hk => hk.2) (.int .i64 t439)) (fun _ h_ => h_.1))) (Kd.R_base ho0) hb); replace BK414 := kB (g := gb414) hb; replace BK422 := kB (g := gb422) hb; replace BK441 := Aside0.mk (blk_below (g := gb441) (o := .cells #[.slice Ao64 t432.length co64, .int .i64 t435, .int .i64 t436, .int .i64 t437, .int .i64 t438, .int .i64 t439] 56 (0, 0)) kS hb); replace HB := hB hb; (try clear hb); (try clear hb2); (try clear hk); (try clear hi); (try clear ho0)) | ((with_reducible refine gD 13 ?_); refine bxE #[.slice none 0 0, .int .i64 0, .int .i64 0, .int .i64 0, .int .i64 0, .int .i64 0] 56 ?_; intro gb451 hg w69 BK451 hb; have GW451 := gE hg; have GE451 := gE hg; have NB414_451 := nL (g := gb414) hg; have NB451_414 := nG (g := gb414) hg; have NB422_451 := nL (g := gb422) hg; have NB451_422 := nG (g := gb422) hg; have NB441_451 := nL (g := gb441) hg; have NB451_441 := nG (g := gb441) hg; replace HO_4 := Aside0.mk (Kd.R_below (rS HO_4) hb); replace HO_415000 := Aside0.mk (Kd.R_below (rS HO_415000) hb); replace HO434 := Aside0.mk (Kd.R_below (rS HO434) hb); replace HO444 := Aside0.mk (Kd.R_below (rS HO444) hb); replace BK414 := kB (g := gb414) hb; replace BK422 := kB (g := gb422) hb; replace BK441 := kB (g := gb441) hb; replace HB := hB hb; clear hb hg; obtain ⟨Ao70, co70, eo70⟩ := Kd.R_slice HO444.out; subst eo70; have hnb71 := NB451_414.out; have hnc71 := NB414_451.out; have hnb72 := NB451_422.out; have hnc72 := NB422_451.out; have hnb73 := NB451_441.out; have hnc73 := NB441_451.out; have hz74 := cz6 BK451; have hz75 := cz6 BK414) | ((with_reducible refine gC 86 ?_); refine cL (some 81) Try.func86 #[.agg #[.slice Ao9 t406.length co9, .int .i64 t409, .int .i64 t410, .int .i64 t411, .int .i64 t412, .int .i64 t413]] ?_; (with_reducible refine (impl_ObjectOk.calls k1 _ _ t406 t409 t410 t411 t412 t413 _ _ ?side1 ?side2 A53.out).mono ?_); (case side1 => refine (Kd.R_reads' (e := 130) (base := w.heap.size) (ok := fun k_ => ((True ∧ some k_ ≠ (.slice Ao64 t432.length co64 : Value).ownBlock) ∧ some k_ ≠ (.slice Ao70 t442.length co70 : Value).ownBlock)) (n := t406.length) (c := co9) ?_).2.2; exact (by (with_reducible repeat (first | apply Kd.R_alloc | apply Kd.R_drewN | apply Kd.R_drew)); exact (Kd.R_mono (Kd.R_far (p := ⟨gb451, 5, none⟩) (Kd.R_far (p := ⟨gb451, 4, none⟩) (Kd.R_far (p := ⟨gb451, 3, none⟩) (Kd.R_far (p := ⟨gb451, 2, none⟩) (Kd.R_far (p := ⟨gb451, 1, none⟩) (Kd.R_far (p := ⟨gb451, 0, none⟩) (Kd.R_types HO_415000.out BK451.out (by decide)) (fun _ hk => hk.2) (.slice Ao70 t442.length co70)) (fun _ hk => hk.2) (.int .i64 t445)) (fun _ hk => hk.2) (.int .i64 t446)) (fun _ hk => hk.2) (.int .i64 t447)) (fun _ hk => hk.2) (.int .i64 t448)) (fun _ hk => hk.2) (.int .i64 t449)) (fun _ h_ => h_.1)))); (case side2 => exact (Kd.R_reads' HO_415000.out).2.1); rintro e w76 ⟨rfl, hb⟩; refine ⟨_, rfl, ?_⟩; replace HO_4 := Aside0.mk (Kd.R_below (by (with_reducible repeat (first | apply Kd.R_alloc | apply Kd.R_drewN | apply Kd.R_drew)); exact (Kd.R_mono (Kd.R_far (p := ⟨gb451, 5, none⟩) (Kd.R_far (p := ⟨gb451, 4, none⟩) (Kd.R_far (p := ⟨gb451, 3, none⟩) (Kd.R_far (p := ⟨gb451, 2, none⟩) (Kd.R_far (p := ⟨gb451, 1, none⟩) (Kd.R_far (p := ⟨gb451, 0, none⟩) (Kd.R_types HO_4.out BK451.out (by decide)) (fun _ hk => hk.2) (.slice Ao70 t442.length co70)) (fun _ hk => hk.2) (.int .i64 t445)) (fun _ hk => hk.2) (.int .i64 t446)) (fun _ hk => hk.2) (.int .i64 t447)) (fun _ hk => hk.2) (.int .i64 t448)) (fun _ hk => hk.2) (.int .i64 t449)) (fun _ h_ => h_.1))) hb); replace HO_415000 := Aside0.mk (Kd.R_below (by (with_reducible repeat (first | apply Kd.R_alloc | apply Kd.R_drewN | apply Kd.R_drew)); exact (Kd.R_mono (Kd.R_far (p := ⟨gb451, 5, none⟩) (Kd.R_far (p := ⟨gb451, 4, none⟩) (Kd.R_far (p := ⟨gb451, 3, none⟩) (Kd.R_far (p := ⟨gb451, 2, none⟩) (Kd.R_far (p := ⟨gb451, 1, none⟩) (Kd.R_far (p := ⟨gb451, 0, none⟩) (Kd.R_types HO_415000.out BK451.out (by decide)) (fun _ hk => hk.2) (.slice Ao70 t442.length co70)) (fun _ hk => hk.2) (.int .i64 t445)) (fun _ hk => hk.2) (.int .i64 t446)) (fun _ hk => hk.2) (.int .i64 t447)) (fun _ hk => hk.2) (.int .i64 t448)) (fun _ hk => hk.2) (.int .i64 t449)) (fun _ h_ => h_.1))) hb); replace HO434 := Aside0.mk (Kd.R_below (by (with_reducible repeat (first | apply Kd.R_alloc | apply Kd.R_drewN | apply Kd.R_drew)); exact (Kd.R_mono (Kd.R_far (p := ⟨gb451, 5, none⟩) (Kd.R_far (p := ⟨gb451, 4, none⟩) (Kd.R_far (p := ⟨gb451, 3, none⟩) (Kd.R_far (p := ⟨gb451, 2, none⟩) (Kd.R_far (p := ⟨gb451, 1, none⟩) (Kd.R_far (p := ⟨gb451, 0, none⟩) (Kd.R_types HO434.out BK451.out (by decide)) (fun _ hk => hk.2) (.slice Ao70 t442.length co70)) (fun _ hk => hk.2) (.int .i64 t445)) (fun _ hk => hk.2) (.int .i64 t446)) (fun _ hk => hk.2) (.int .i64 t447)) (fun _ hk => hk.2) (.int .i64 t448)) (fun _ hk => hk.2) (.int .i64 t449)) (fun _ h_ => h_.1))) hb); replace HO444 := Aside0.mk (Kd.R_below (by (with_reducible repeat (first | apply Kd.R_alloc | apply Kd.R_drewN | apply Kd.R_drew)); exact (Kd.R_mono (Kd.R_far (p := ⟨gb451, 5, none⟩) (Kd.R_far (p := ⟨gb451, 4, none⟩) (Kd.R_far (p := ⟨gb451, 3, none⟩) (Kd.R_far (p := ⟨gb451, 2, none⟩) (Kd.R_far (p := ⟨gb451, 1, none⟩) (Kd.R_far (p := ⟨gb451, 0, none⟩) (Kd.R_types HO444.out BK451.out (by decide)) (fun _ hk => hk.2) (.slice Ao70 t442.length co70)) (fun _ hk => hk.2) (.int .i64 t445)) (fun _ hk => hk.2) (.int .i64 t446)) (fun _ hk => hk.2) (.int .i64 t447)) (fun _ hk => hk.2) (.int .i64 t448)) (fun _ hk => hk.2) (.int .i64 t449)) (fun _ h_ => h_.1))) hb); replace BK414 := kB (g := gb414) hb; replace BK422 := kB (g := gb422) hb; replace BK441 := kB (g := gb441) hb; replace BK451 := Aside0.mk (blk_below (g := gb451) (o := .cells #[.slice Ao70 t442.length co70, .int .i64 t445, .int .i64 t446, .int .i64 t447, .int .i64 t448, .int .i64 t449] 56 (0, 0)) kS hb); replace HB := hB hb; (try clear hb); (try clear hb2); (try clear hk); (try clear hi); have hz77 := cz6 BK414) | (go_at_call 87; (with_reducible refine (impl_ObjectDots.calls k1 _ _ t406 t409 t410 t411 t412 t413 t453 _ ?side1 ?side2 A55.out).mono ?_); (case side1 => exact cS (Kd.R_reads' HO_415000.out).2.2); (case side2 => exact (Kd.R_reads' HO_415000.out).2.1); rintro e w78 ⟨rfl, hb⟩; replace HO_4 := Aside0.mk (Kd.R_below (rS HO_4) hb); replace HO_415000 := Aside0.mk (Kd.R_below (rS HO_415000) hb); replace HO434 := Aside0.mk (Kd.R_below (rS HO434) hb); replace HO444 := Aside0.mk (Kd.R_below (rS HO444) hb); replace BK414 := kB (g := gb414) hb; replace BK422 := kB (g := gb422) hb; replace BK441 := kB (g := gb441) hb; replace BK451 := kB (g := gb451) hb; replace HB := hB hb; (try clear hb); (try clear hb2); (try clear hk); (try clear hi); have hz79 := cz4 BK422) | (go_at_call 88; (with_reducible refine (impl_CountDots.calls t418 t419 t420 t421 t454 _ A59.out).mono ?_); rintro e w80 ⟨rfl, hb⟩; replace HO_4 := Aside0.mk (Kd.R_below (rS HO_4) hb); replace HO_415000 := Aside0.mk (Kd.R_below (rS HO_415000) hb); replace HO434 := Aside0.mk (Kd.R_below (rS HO434) hb); replace HO444 := Aside0.mk (Kd.R_below (rS HO444) hb); replace BK414 := kB (g := gb414) hb; replace BK422 := kB (g := gb422) hb; replace BK441 := kB (g := gb441) hb; replace BK451 := kB (g := gb451) hb; replace HB := hB hb; (try clear hb); (try clear hb2); (try clear hk); (try clear hi)))
         go_ret
         exact ⟨eS, bS⟩
        ·obtain rfl := Bool.eq_false_iff.mpr c58
         rw [if_neg nF] at H
         exact absurd ((Option.some.inj H).trans hT) (by decide)
       ·obtain rfl := Bool.eq_false_iff.mpr c57
        rw [if_neg nF] at H
        exact absurd ((Option.some.inj H).trans hT) (by decide)
      ·rw [if_neg c56] at H; exact absurd ((Option.some.inj H).trans hT) (by decide)
     ·obtain rfl := Bool.eq_false_iff.mpr c54
      rw [if_neg nF] at H
      exact absurd ((Option.some.inj H).trans hT) (by decide)

end Go.Proofs.Ytcalgoembdmlkaa.QFnObjects
