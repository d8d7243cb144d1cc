-- Made out of the translation by a program of this session (a changed copy of the print). Not trusted: Lean checks it.
import Derived.Test.YtjodcfjaedhpeaaQFnPagesx0
import Derived.Test.YtjodcfjaedhpeaaQFnPagesx11
namespace Go.Proofs.Ytjodcfjaedhpeaa.QFnPages
open Go.RowKit Go.Proofs.YtjodcfjaedhpeaaW.PrintWords Go.Proofs.YtjodcfjaedhpeaaW.PrintLast Go.Proofs.YtjodcfjaedhpeaaW.PrintMore
attribute [local go_sem] max2_int min2_int max_two min_two max_three min_three max_four min_four   -- for this text's walks alone
set_option linter.unusedVariables false
set_option linter.unusedSimpArgs false
set_option maxHeartbeats 8000000
set_option maxRecDepth 100000

/-! ### spec_l01New: function 11 -/
def spec_l01New.l0 : Nat → List Int → Int → Int → Option (List Int × Int × Int)
 | 0, _, _, _ => none
 | k + 1, x0, x3, x4 => if x4 < (x0.length : Int) then (if x4 < 4000 then (if 0 ≤ x4 then (spec_l01New.l0 k x0 (Go.bits .and .i64 (wrap64 ((wrap64 ((wrap64 (x3 * 131)) + (wrap64 (rd x0 x4)))) + 7)) 1073741823) (wrap64 (x4 + 1))) else (none)) else (some (x0, 0, x3))) else (some (x0, 0, x3))
def spec_l01New.f (k : Nat) (l0 : List Int) : Option (List Int × Int × Int) := spec_l01New.l0 k l0 (wrap64 (98729 + (l0.length : Int))) 0
theorem spec_l01New.calls (k : Nat) (A0 : Option Addr) (c0 : Nat) (l0 : List Int) (r1 : List Int) (r2 : Int) (r3 : Int) (w0 w : World) (hB : Below w0.heap.size w0 w) (hr0 : Kd.C (Kd.int .u8) w0 A0 l0.length l0) (b7 : l0.length ≤ c0) (h : spec_l01New.f k l0 = some (r1, r2, r3)) :
  Calls Try.prog 11 #[.slice A0 l0.length c0] w fun e w' => ∃ g_ : Nat, e = .returned (.pointer (some ⟨g_, 0, none⟩)) ∧ IsS74 w0 w' g_ r1 r2 r3 ∧ Below w0.heap.size w0 w' ∧ Below w.heap.size w w' := by
 have hu74 := Try.underlying74
 have b0 := aM hr0
 have d3 := aM b7
 clear hr0 b7
 have HBW := aM (Below.refl w.heap.size w)
 have HW0 := aM hB.size
 have HB := aM hB
 clear hB
 have H := h
 clear h
 unfold spec_l01New.f at H
 have H' := aM H
 clear H
 go_enter Try.func11, Try.ntmps11
 go_wp2
 go_loopg [3, 4] k (fun kq v3 v4 w' => ∃ (a2 : Int) (a3 : Int), v3 = .int .i64 a2 ∧ v4 = .int .i64 a3 ∧ Aside0 (spec_l01New.l0 kq l0 a2 a3 = some (r1, r2, r3)) ∧ Aside0 (kq ≤ k) ∧ Aside0 (Below w0.heap.size w0 w') ∧ Aside0 (Below w.heap.size w w'))
 case atStart => exact ⟨(wrap64 (98729 + (l0.length : Int))), (0), fS, fS, H', ⟨Nat.le_refl _⟩, ⟨bS⟩, ⟨by repeat (first | (with_reducible first | exact HBW.out | apply below_alloc | apply pw_below_drewN | apply below_drew1) | exact HBW.out)⟩⟩
 case round =>
  clear H'
  try clear c1
  obtain ⟨a2, a3, rfl, rfl, HA, b8, HB, HBW⟩ := hrel
  cases gk with
  | zero => exact absurd HA.out (by simp [spec_l01New.l0])
  | succ k1 =>
   have H := HA.out
   clear HA
   simp only [spec_l01New.l0] at H
   rcases iD H with ⟨b1, H⟩ | ⟨b1, H⟩
   ·rcases iD H with ⟨b2, H⟩ | ⟨b2, H⟩
    ·obtain ⟨d2, H⟩ := iT H
     have H' := aM H
     clear H
     have a8 : 0 ≤ (a3 : Int) := dA
     have a9 : a3 < (l0.length : Int) := dA
     obtain ⟨b9, b6, a5⟩ := Kd.at_int b0.out a3 a8 a9
     cases b6
     replace a5 := pw_cell_below HB.out a5
     replace a8 := eq_true a8
     replace a9 := eq_true a9
     go_wp2
     go_roundg k1
     case measure => have := b8.out; omega
     case rel => exact ⟨(Go.bits .and .i64 (wrap64 ((wrap64 ((wrap64 (a2 * 131)) + (wrap64 (rd l0 a3)))) + 7)) 1073741823), (wrap64 (a3 + 1)), fS, fS, H', ⟨by have := b8.out; omega⟩, ⟨bS⟩, ⟨by repeat (first | (with_reducible first | exact HBW.out | apply below_alloc | apply pw_below_drewN | apply below_drew1) | exact HBW.out)⟩⟩
    ·obtain ⟨rfl, rfl, rfl⟩ := sI3 H
     go_wp2_with (first | ((with_reducible refine gD 31 ?_); refine bxE #[.slice A0 l0.length c0, .int .i64 0, .int .i64 a2] 74 ?_; intro a6 hg w5 d0 hb; have GW698 := aM ((by rw [hg]; exact (below_size (by repeat (first | (with_reducible first | exact HBW.out | apply below_alloc | apply pw_below_drewN | apply below_drew1) | exact HBW.out))) : w.heap.size ≤ a6)); have GE698 := aM ((Nat.le_trans HW0.out (by rw [hg]; exact (below_size (by repeat (first | (with_reducible first | exact HBW.out | apply below_alloc | apply pw_below_drewN | apply below_drew1) | exact HBW.out))) : w.heap.size ≤ a6) : w0.heap.size ≤ a6)); replace HBW := aM (below_step HBW.out hb); replace HB := hB hb; clear hb hg))
     go_ret
     exact ⟨_, rfl, (show IsS74 w0 _ a6 l0 0 a2 from ⟨_, _, kS, GE698.out, b0.out⟩), bS, by repeat (first | (with_reducible first | exact HBW.out | apply below_alloc | apply pw_below_drewN | apply below_drew1 | refine below_set ?_ GW698.out) | exact HBW.out)⟩
   ·obtain ⟨rfl, rfl, rfl⟩ := sI3 H
    go_wp2_with (first | ((with_reducible refine gD 31 ?_); refine bxE #[.slice A0 l0.length c0, .int .i64 0, .int .i64 a2] 74 ?_; intro a7 hg w6 d1 hb; have GW699 := aM ((by rw [hg]; exact (below_size (by repeat (first | (with_reducible first | exact HBW.out | apply below_alloc | apply pw_below_drewN | apply below_drew1) | exact HBW.out))) : w.heap.size ≤ a7)); have GE699 := aM ((Nat.le_trans HW0.out (by rw [hg]; exact (below_size (by repeat (first | (with_reducible first | exact HBW.out | apply below_alloc | apply pw_below_drewN | apply below_drew1) | exact HBW.out))) : w.heap.size ≤ a7) : w0.heap.size ≤ a7)); replace HBW := aM (below_step HBW.out hb); replace HB := hB hb; clear hb hg))
    go_ret
    exact ⟨_, rfl, (show IsS74 w0 _ a7 l0 0 a2 from ⟨_, _, kS, GE699.out, b0.out⟩), bS, by repeat (first | (with_reducible first | exact HBW.out | apply below_alloc | apply pw_below_drewN | apply below_drew1 | refine below_set ?_ GW699.out) | exact HBW.out)⟩

/-! ### spec_DrawPage: function 5 -/
def spec_DrawPage.f (k : Nat) (l0 : List Int) : Option (List Int × Int × Int × Int × Int × (List (S80)) × Int × Int × Int × Int × Int × (List (S31)) × (List (S60))) := (spec_l01New.f k l0).bind fun a3 => ((spec_l07Page.f k a3.1 a3.2.1 a3.2.2).bind fun a2 => (some (a2.1, a2.2.1, a2.2.2.1, a2.2.2.2.1, a2.2.2.2.2.1, a2.2.2.2.2.2.1, a2.2.2.2.2.2.2.1, a2.2.2.2.2.2.2.2.1, a2.2.2.2.2.2.2.2.2.1, a2.2.2.2.2.2.2.2.2.2.1, a2.2.2.2.2.2.2.2.2.2.2.1, a2.2.2.2.2.2.2.2.2.2.2.2.1, a2.2.2.2.2.2.2.2.2.2.2.2.2.1)))
theorem spec_DrawPage.calls (k : Nat) (A0 : Option Addr) (c0 : Nat) (l0 : List Int) (r1 : List Int) (r2 : Int) (r3 : Int) (r4 : Int) (r5 : Int) (r6 : List (S80)) (r7 : Int) (r8 : Int) (r9 : Int) (f8 : Int) (f9 : Int) (g0 : List (S31)) (g1 : List (S60)) (w : World) (hr0 : Kd.C (Kd.int .u8) w A0 l0.length l0) (g2 : l0.length ≤ c0) (h : spec_DrawPage.f k l0 = some (r1, r2, r3, r4, r5, r6, r7, r8, r9, f8, f9, g0, g1)) :
  Calls Try.prog 5 #[.slice A0 l0.length c0] w fun e w' => ∃ v0_ v5_ v11_ v12_ : Value, e = .returned (.agg #[v0_, .int .i64 r2, .int .i64 r3, .int .i64 r4, .int .i64 r5, v5_, .int .i64 r7, .int .i64 r8, .int .i64 r9, .int .i64 f8, .int .i64 f9, v11_, v12_]) ∧ Kd.V (Kd.int .i64) 3 w' w.heap.size (fun k_ => (w.heap.size ≤ k_)) v0_ r1 ∧ Kd.V k80 80 w' w.heap.size (fun k_ => (w.heap.size ≤ k_)) v5_ r6 ∧ Kd.V k31 31 w' w.heap.size (fun k_ => (w.heap.size ≤ k_)) v11_ g0 ∧ Kd.V k60 60 w' w.heap.size (fun k_ => (w.heap.size ≤ k_)) v12_ g1 ∧ Below w.heap.size w w' := by
 have hu35 := Try.underlying35
 have g7 := aM hr0
 have g8 := aM g2
 clear hr0 g2
 have HB := aM (Below.refl w.heap.size w)
 have H := h
 clear h
 unfold spec_DrawPage.f at H
 replace H := bN H
 obtain ⟨⟨b2, b6, b7⟩, A2, H⟩ := H
 replace H := bN H
 obtain ⟨⟨b8, b9, d0, d1, d2, d3, d4, d5, d6, e0, e1, e2, e3, e5, e6⟩, A3, H⟩ := H
 simp only [Option.some.injEq, Prod.mk.injEq] at H
 obtain ⟨rfl, rfl, rfl, rfl, rfl, rfl, rfl, rfl, rfl, rfl, rfl, rfl, rfl⟩ := H
 go_enter Try.func5, Try.ntmps5
 go_wp2_with (first | ((with_reducible refine gD 2 ?_); refine bxE #[.slice none 0 0, .int .i64 0, .int .i64 0, .int .i64 0, .int .i64 0, .slice none 0 0, .int .i64 0, .int .i64 0, .int .i64 0, .int .i64 0, .int .i64 0, .slice none 0 0, .slice none 0 0] 35 ?_; intro a2 hg w4 a7 hb; have GE700 := gE hg; replace HB := hB hb; clear hb hg) | ((with_reducible refine gC 11 ?_); refine cL (some 4) Try.func11 #[.slice A0 l0.length c0] ?_; (with_reducible refine (spec_l01New.calls k _ _ l0 b2 b6 b7 w _ ?side1 ?side2 ?side3 A2.out).mono ?_); (case side1 => repeat (first | (with_reducible first | exact HB.out | apply below_alloc | apply pw_below_drewN | apply below_drew1 | refine below_set ?_ GE700.out) | exact HB.out)); (case side2 => exact g7.out); (case side3 => exact g8.out); rintro e w5 ⟨a6, rfl, hi, hb, e4⟩; refine ⟨_, rfl, ?_⟩; have HI704 := aM (hi); have a3 := aM (IsS74.ne_blk hi (blk_below (g := a2) kS e4) (by decide)); have a5 := aM (Ne.symm (IsS74.ne_blk hi (blk_below (g := a2) kS e4) (by decide))); replace a7 := aM (blk_below (g := a2) kS e4); replace HB := aM (hb); (try clear hb e4 hi)) | ((with_reducible refine gC 10 ?_); refine cL (some 5) Try.func10 #[.pointer (some ⟨a6, 0, none⟩)] ?_; (with_reducible refine (spec_l07Page.calls k a6 b2 b6 b7 b8 b9 d0 d1 d2 d3 d4 d5 d6 e0 e1 e2 e3 e5 e6 w _ ?side1 ?side2 A3.out).mono ?_); (case side1 => repeat (first | (with_reducible first | exact HI704.out | apply IsS74.alloc | apply IsS74.drewN | apply IsS74.drew | apply IsS74.set_1 | apply IsS74.set_2 | refine IsS74.far ?_ a3.out _) | exact HI704.out)); (case side2 => repeat (first | (with_reducible first | exact HB.out | apply below_alloc | apply pw_below_drewN | apply below_drew1 | refine below_set ?_ (IsS74.ge HI704.out) | refine below_set ?_ GE700.out) | exact HB.out)); rintro e w6 ⟨g9, h0, h1, h2, rfl, g3, g4, g5, g6, hi, hb, hk⟩; refine ⟨_, rfl, ?_⟩; have a8 := aM (Kd.V_lower (Kd.V_mono (ok' := fun k_ => (w.heap.size ≤ k_) ∧ k_ ≠ a2 ∧ k_ ≠ a6) g3 (fun k_ hk_ => ⟨(Nat.le_trans (below_size (by repeat (first | (with_reducible first | exact HB.out | apply below_alloc | apply pw_below_drewN | apply below_drew1 | refine below_set ?_ (IsS74.ge HI704.out) | refine below_set ?_ GE700.out) | exact HB.out))) hk_), (Kd.freshB (g := a2) kS k_ hk_), (IsS74.fresh (by repeat (first | (with_reducible first | exact HI704.out | apply IsS74.alloc | apply IsS74.drewN | apply IsS74.drew | apply IsS74.set_1 | apply IsS74.set_2 | refine IsS74.far ?_ a3.out _) | exact HI704.out)) k_ hk_)⟩)) (below_size (by repeat (first | (with_reducible first | exact HB.out | apply below_alloc | apply pw_below_drewN | apply below_drew1 | refine below_set ?_ (IsS74.ge HI704.out) | refine below_set ?_ GE700.out) | exact HB.out)))); have a9 := aM (Kd.V_lower (Kd.V_mono (ok' := fun k_ => (w.heap.size ≤ k_) ∧ k_ ≠ a2 ∧ k_ ≠ a6) g4 (fun k_ hk_ => ⟨(Nat.le_trans (below_size (by repeat (first | (with_reducible first | exact HB.out | apply below_alloc | apply pw_below_drewN | apply below_drew1 | refine below_set ?_ (IsS74.ge HI704.out) | refine below_set ?_ GE700.out) | exact HB.out))) hk_), (Kd.freshB (g := a2) kS k_ hk_), (IsS74.fresh (by repeat (first | (with_reducible first | exact HI704.out | apply IsS74.alloc | apply IsS74.drewN | apply IsS74.drew | apply IsS74.set_1 | apply IsS74.set_2 | refine IsS74.far ?_ a3.out _) | exact HI704.out)) k_ hk_)⟩)) (below_size (by repeat (first | (with_reducible first | exact HB.out | apply below_alloc | apply pw_below_drewN | apply below_drew1 | refine below_set ?_ (IsS74.ge HI704.out) | refine below_set ?_ GE700.out) | exact HB.out)))); have b0 := aM (Kd.V_lower (Kd.V_mono (ok' := fun k_ => (w.heap.size ≤ k_) ∧ k_ ≠ a2 ∧ k_ ≠ a6) g5 (fun k_ hk_ => ⟨(Nat.le_trans (below_size (by repeat (first | (with_reducible first | exact HB.out | apply below_alloc | apply pw_below_drewN | apply below_drew1 | refine below_set ?_ (IsS74.ge HI704.out) | refine below_set ?_ GE700.out) | exact HB.out))) hk_), (Kd.freshB (g := a2) kS k_ hk_), (IsS74.fresh (by repeat (first | (with_reducible first | exact HI704.out | apply IsS74.alloc | apply IsS74.drewN | apply IsS74.drew | apply IsS74.set_1 | apply IsS74.set_2 | refine IsS74.far ?_ a3.out _) | exact HI704.out)) k_ hk_)⟩)) (below_size (by repeat (first | (with_reducible first | exact HB.out | apply below_alloc | apply pw_below_drewN | apply below_drew1 | refine below_set ?_ (IsS74.ge HI704.out) | refine below_set ?_ GE700.out) | exact HB.out)))); have b1 := aM (Kd.V_lower (Kd.V_mono (ok' := fun k_ => (w.heap.size ≤ k_) ∧ k_ ≠ a2 ∧ k_ ≠ a6) g6 (fun k_ hk_ => ⟨(Nat.le_trans (below_size (by repeat (first | (with_reducible first | exact HB.out | apply below_alloc | apply pw_below_drewN | apply below_drew1 | refine below_set ?_ (IsS74.ge HI704.out) | refine below_set ?_ GE700.out) | exact HB.out))) hk_), (Kd.freshB (g := a2) kS k_ hk_), (IsS74.fresh (by repeat (first | (with_reducible first | exact HI704.out | apply IsS74.alloc | apply IsS74.drewN | apply IsS74.drew | apply IsS74.set_1 | apply IsS74.set_2 | refine IsS74.far ?_ a3.out _) | exact HI704.out)) k_ hk_)⟩)) (below_size (by repeat (first | (with_reducible first | exact HB.out | apply below_alloc | apply pw_below_drewN | apply below_drew1 | refine below_set ?_ (IsS74.ge HI704.out) | refine below_set ?_ GE700.out) | exact HB.out)))); replace a7 := aM (KeepBut.blk hk (g' := a2) kS a5.out (by simp)); replace HB := aM (hb); replace HI704 := aM (hi); (try clear hb hk hi g3 g4 g5 g6); obtain ⟨h3, h4, h5⟩ := Kd.V_slice a8.out; subst h5; have hnb8 := nP a5 a3; have hz9 := cz13 a7; obtain ⟨e7, e8, e9⟩ := Kd.V_slice a9.out; subst e9; obtain ⟨f0, f3, f4⟩ := Kd.V_slice b0.out; subst f4; obtain ⟨f5, f6, f7⟩ := Kd.V_slice b1.out; subst f7))
 refine bodyPost_ret (results_cell_row rfl _ _ a2 35 #[.slice h3 b8.length h4, .int .i64 b9, .int .i64 d0, .int .i64 d1, .int .i64 d2, .slice e7 d3.length e8, .int .i64 d4, .int .i64 d5, .int .i64 d6, .int .i64 e0, .int .i64 e1, .slice f0 e2.length f3, .slice f5 e3.length f6] (0, 0) _ rfl kS Try.underlying35 rfl (by kernel_rfl)) rfl ?_
 exact ⟨_, _, _, _, eS, vO [a2] a8, vO [a2] a9, vO [a2] b0, vO [a2] b1, by repeat (first | (with_reducible first | exact HB.out | apply below_alloc | apply pw_below_drewN | apply below_drew1 | refine below_set ?_ (IsS74.ge HI704.out) | refine below_set ?_ GE700.out) | exact HB.out)⟩

/-! ### impl_within: function 27 -/
def impl_within.f (a0 : Int) (a1 : Int) (a2 : Int) : Option (Bool) := if a0 ≥ a1 then (some (decide (a0 ≤ a2))) else (some false)
theorem impl_within.calls (a0 : Int) (a1 : Int) (a2 : Int) (r : Bool) (w : World) (h : impl_within.f a0 a1 a2 = some r) :
  Calls Try.prog 27 #[.int .i64 a0, .int .i64 a1, .int .i64 a2] w fun e w' => e = .returned (.bool r) ∧ Drawn0 w w' := by
 have H := h
 clear h
 unfold impl_within.f at H
 by_cases c4 : a0 ≥ a1
 ·rw [if_pos c4] at H
  have a3 : decide (a1 ≤ a0) = true := decide_eq_true c4
  clear c4
  obtain rfl := Option.some.inj H
  go_enter Try.func27, Try.ntmps27
  go_wp2
  go_ret
  exact ⟨fS, dS⟩
 ·rw [if_neg c4] at H
  have a3 : decide (a1 ≤ a0) = false := decide_eq_false c4
  clear c4
  obtain rfl := Option.some.inj H
  go_enter Try.func27, Try.ntmps27
  go_wp2
  go_ret
  exact ⟨fS, dS⟩

/-! ### impl_StackOk: function 23 -/
def impl_StackOk.l0 : Nat → List Int → Int → Int → Option (Bool)
 | 0, _, _, _ => none
 | k + 1, x8, x9, x10 => if x10 < x9 then (if 0 ≤ x10 then (if x10 < (x8.length : Int) then ((impl_within.f (rd x8 x10) (-9999) 9999).bind fun a2 => (if a2 = true then (impl_StackOk.l0 k x8 x9 (wrap64 (x10 + 1))) else (some false))) else (none)) else (none)) else (some true)
def impl_StackOk.f (k : Nat) (l0 : List Int) : Option (Bool) := if (l0.length : Int) > 12 then (some false) else (impl_StackOk.l0 k l0 (l0.length : Int) 0)
theorem impl_StackOk.calls (k : Nat) (A0 : Option Addr) (c0 : Nat) (l0 : List Int) (r : Bool) (w : World) (hr0 : Kd.C (Kd.int .i64) w A0 l0.length l0) (b6 : l0.length ≤ c0) (h : impl_StackOk.f k l0 = some r) :
  Calls Try.prog 23 #[.slice A0 l0.length c0] w fun e w' => e = .returned (.bool r) ∧ Drawn0 w w' := by
 have b7 := aM hr0
 have d2 := aM b6
 clear hr0 b6
 have H := h
 clear h
 unfold impl_StackOk.f at H
 by_cases c2 : (l0.length : Int) > 12
 ·rw [if_pos c2] at H
  have a8 : decide (12 < (l0.length : Int)) = true := decide_eq_true c2
  have a9 : decide (12 < l0.length) = true := decide_eq_true (by omega)
  clear c2
  obtain rfl := Option.some.inj H
  go_enter Try.func23, Try.ntmps23
  go_wp2
  go_ret
  exact ⟨fS, dS⟩
 ·rw [if_neg c2] at H
  have a8 : decide (12 < (l0.length : Int)) = false := decide_eq_false c2
  have a9 : decide (12 < l0.length) = false := decide_eq_false (by omega)
  clear c2
  have H' := aM H
  clear H
  go_enter Try.func23, Try.ntmps23
  go_wp2
  go_loopg [10] k (fun kq b9 w' => ∃ (a2 : Int), b9 = .int .i64 a2 ∧ Aside0 (impl_StackOk.l0 kq l0 (l0.length : Int) a2 = some r) ∧ Aside0 (kq ≤ k) ∧ Drawn0 w w')
  case atStart => exact ⟨(0), fS, H', ⟨Nat.le_refl _⟩, dS⟩
  case round =>
   clear H'
   try clear c2
   try clear a8
   try clear a9
   try clear p2
   obtain ⟨a2, rfl, HA, b8, ⟨m1, rfl⟩⟩ := hrel
   cases gk with
   | zero => exact absurd HA.out (by simp [impl_StackOk.l0])
   | succ k1 =>
    have H := HA.out
    clear HA
    simp only [impl_StackOk.l0] at H
    rcases iD H with ⟨b1, H⟩ | ⟨b1, H⟩
    ·obtain ⟨d0, H⟩ := iT H
     obtain ⟨d1, H⟩ := iT H
     replace H := bN H
     obtain ⟨b2, A6, H⟩ := H
     by_cases c7 : b2 = true
     ·subst c7
      rw [if_pos rfl] at H
      have H' := aM H
      clear H
      have a3 : 0 ≤ (a2 : Int) := dA
      have a5 : a2 < (l0.length : Int) := dA
      obtain ⟨b0, a7, a6⟩ := Kd.at_int b7.out a2 a3 a5
      cases a7
      replace a3 := eq_true a3
      replace a5 := eq_true a5
      go_wp2_with (first | ((with_reducible refine gC 27 ?_); refine cM (some 15) Try.func27 (impl_within.calls (rd l0 a2) (-9999) 9999 _ _ A6.out) ?_; rintro e w' ⟨rfl, ⟨nd, rfl⟩⟩; refine ⟨_, rfl, ?_⟩))
      go_roundg k1
      case measure => have := b8.out; omega
      case rel => exact ⟨(wrap64 (a2 + 1)), fS, H', ⟨by have := b8.out; omega⟩, dS⟩
     ·obtain rfl := Bool.eq_false_iff.mpr c7
      rw [if_neg nF] at H
      obtain rfl := Option.some.inj H
      have a3 : 0 ≤ (a2 : Int) := dA
      have a5 : a2 < (l0.length : Int) := dA
      obtain ⟨b0, a7, a6⟩ := Kd.at_int b7.out a2 a3 a5
      cases a7
      replace a3 := eq_true a3
      replace a5 := eq_true a5
      go_wp2_with (first | ((with_reducible refine gC 27 ?_); refine cM (some 15) Try.func27 (impl_within.calls (rd l0 a2) (-9999) 9999 _ _ A6.out) ?_; rintro e w' ⟨rfl, ⟨nd, rfl⟩⟩; refine ⟨_, rfl, ?_⟩))
      go_ret
      exact ⟨fS, dS⟩
    ·obtain rfl := Option.some.inj H
     go_wp2
     go_ret
     exact ⟨fS, dS⟩

/-! ### impl_coordOk: function 39 -/
def impl_coordOk.f (a0 : Int) : Option (Bool) := (impl_within.f a0 (-200) 200).bind fun a2 => (some a2)
theorem impl_coordOk.calls (a0 : Int) (r : Bool) (w : World) (h : impl_coordOk.f a0 = some r) :
  Calls Try.prog 39 #[.int .i64 a0] w fun e w' => e = .returned (.bool r) ∧ Drawn0 w w' := by
 have H := h
 clear h
 unfold impl_coordOk.f at H
 replace H := bN H
 obtain ⟨a2, A2, H⟩ := H
 obtain rfl := Option.some.inj H
 go_enter Try.func39, Try.ntmps39
 go_wp2_with (first | ((with_reducible refine gC 27 ?_); refine cM (some 4) Try.func27 (impl_within.calls a0 (-200) 200 a2 _ A2.out) ?_; rintro e w' ⟨rfl, ⟨nd, rfl⟩⟩; refine ⟨_, rfl, ?_⟩))
 go_ret
 exact ⟨fS, dS⟩

/-! ### impl_TurnOk: function 24 -/
def impl_TurnOk.f (a2 : Int) (a3 : Int) (a5 : Int) (a6 : Int) : Option (Bool) := (impl_within.f a2 0 3).bind fun a7 => (if a7 = true then ((impl_within.f a3 1 4).bind fun a8 => (if a8 = true then ((impl_coordOk.f a5).bind fun a9 => (if a9 = true then ((impl_coordOk.f a6).bind fun b0 => (some b0)) else (some false))) else (some false))) else (some false))
theorem impl_TurnOk.lf0 {p : Prop} (h : p := by
 go_enter Try.func24, Try.ntmps24
 go_wp2_with (first | ((with_reducible refine gD 1 ?_); refine bxE #[.int .i64 a2, .int .i64 a3, .int .i64 a5, .int .i64 a6] 26 ?_; intro b2 hg w9 a7 hb; have GE731 := gE hg; replace HB := hB hb; clear hb hg; have hz10 := cz4 a7) | ((with_reducible refine gC 27 ?_); refine cM (some 5) Try.func27 (impl_within.calls a2 0 3 _ _ A2.out) ?_; rintro e w' ⟨rfl, ⟨nd, rfl⟩⟩; refine ⟨_, rfl, ?_⟩) | (go_at_call 27; (with_reducible refine (impl_within.calls a3 1 4 _ _ A4.out).mono ?_); rintro e w' ⟨rfl, ⟨nd, rfl⟩⟩) | (go_at_call 39; (with_reducible refine (impl_coordOk.calls a5 _ _ A6.out).mono ?_); rintro e w' ⟨rfl, ⟨nd, rfl⟩⟩) | (go_at_call 39; (with_reducible refine (impl_coordOk.calls a6 a8 _ A8.out).mono ?_); rintro e w' ⟨rfl, ⟨nd, rfl⟩⟩))
 go_ret
 exact ⟨eS, bS⟩) : p := h
theorem impl_TurnOk.calls (a2 : Int) (a3 : Int) (a5 : Int) (a6 : Int) (r : Bool) (w : World) (h : impl_TurnOk.f a2 a3 a5 a6 = some r) :
  Calls Try.prog 24 #[.agg #[.int .i64 a2, .int .i64 a3, .int .i64 a5, .int .i64 a6]] w fun e w' => e = .returned (.bool r) ∧ Below w.heap.size w w' := by
 have hu26 := Try.underlying26
 have HB := aM (Below.refl w.heap.size w)
 have H := h
 clear h
 unfold impl_TurnOk.f at H
 replace H := bN H
 obtain ⟨a9, A2, H⟩ := H
 by_cases c3 : a9 = true
 ·subst c3
  rw [if_pos rfl] at H
  replace H := bN H
  obtain ⟨b0, A4, H⟩ := H
  by_cases c5 : b0 = true
  ·subst c5
   rw [if_pos rfl] at H
   replace H := bN H
   obtain ⟨b1, A6, H⟩ := H
   by_cases c7 : b1 = true
   ·subst c7
    rw [if_pos rfl] at H
    replace H := bN H
    obtain ⟨a8, A8, H⟩ := H
    obtain rfl := Option.some.inj H
    exact impl_TurnOk.lf0
   ·obtain rfl := Bool.eq_false_iff.mpr c7
    rw [if_neg nF] at H
    obtain rfl := Option.some.inj H
    exact impl_TurnOk.lf0
  ·obtain rfl := Bool.eq_false_iff.mpr c5
   rw [if_neg nF] at H
   obtain rfl := Option.some.inj H
   exact impl_TurnOk.lf0
 ·obtain rfl := Bool.eq_false_iff.mpr c3
  rw [if_neg nF] at H
  obtain rfl := Option.some.inj H
  exact impl_TurnOk.lf0

/-! ### impl_BoxOk: function 25 -/
def impl_BoxOk.f (a2 : Int) (a3 : Int) (a5 : Int) (a6 : Int) : Option (Bool) := (impl_coordOk.f a2).bind fun a7 => (if a7 = true then ((impl_coordOk.f a3).bind fun a8 => (if a8 = true then ((impl_coordOk.f a5).bind fun a9 => (if a9 = true then ((impl_coordOk.f a6).bind fun b0 => (if b0 = true then (if a2 ≤ a5 then (some (decide (a3 ≤ a6))) else (some false)) else (some false))) else (some false))) else (some false))) else (some false))
theorem impl_BoxOk.lf0 {p : Prop} (h : p := by
 go_enter Try.func25, Try.ntmps25
 go_wp2_with (first | ((with_reducible refine gD 1 ?_); refine bxE #[.int .i64 a2, .int .i64 a3, .int .i64 a5, .int .i64 a6] 29 ?_; intro b6 hg b7 a7 hb; have GE736 := gE hg; replace HB := hB hb; clear hb hg; have hz12 := cz4 a7) | ((with_reducible refine gC 39 ?_); refine cM (some 5) Try.func39 (impl_coordOk.calls a2 _ _ A2.out) ?_; rintro e w' ⟨rfl, ⟨nd, rfl⟩⟩; refine ⟨_, rfl, ?_⟩) | (go_at_call 39; (with_reducible refine (impl_coordOk.calls a3 _ _ A4.out).mono ?_); rintro e w' ⟨rfl, ⟨nd, rfl⟩⟩) | (go_at_call 39; (with_reducible refine (impl_coordOk.calls a5 _ _ A6.out).mono ?_); rintro e w' ⟨rfl, ⟨nd, rfl⟩⟩) | (go_at_call 39; (with_reducible refine (impl_coordOk.calls a6 _ _ A8.out).mono ?_); rintro e w' ⟨rfl, ⟨nd, rfl⟩⟩))
 go_ret
 exact ⟨eS, bS⟩) : p := h
theorem impl_BoxOk.calls (a2 : Int) (a3 : Int) (a5 : Int) (a6 : Int) (r : Bool) (w : World) (h : impl_BoxOk.f a2 a3 a5 a6 = some r) :
  Calls Try.prog 25 #[.agg #[.int .i64 a2, .int .i64 a3, .int .i64 a5, .int .i64 a6]] w fun e w' => e = .returned (.bool r) ∧ Below w.heap.size w w' := by
 have hu29 := Try.underlying29
 have HB := aM (Below.refl w.heap.size w)
 have H := h
 clear h
 unfold impl_BoxOk.f at H
 replace H := bN H
 obtain ⟨a9, A2, H⟩ := H
 by_cases c3 : a9 = true
 ·subst c3
  rw [if_pos rfl] at H
  replace H := bN H
  obtain ⟨b0, A4, H⟩ := H
  by_cases c5 : b0 = true
  ·subst c5
   rw [if_pos rfl] at H
   replace H := bN H
   obtain ⟨b1, A6, H⟩ := H
   by_cases c7 : b1 = true
   ·subst c7
    rw [if_pos rfl] at H
    replace H := bN H
    obtain ⟨b2, A8, H⟩ := H
    by_cases c9 : b2 = true
    ·subst c9
     rw [if_pos rfl] at H
     rcases iD H with ⟨a8, H⟩ | ⟨a8, H⟩
     ·obtain rfl := Option.some.inj H
      exact impl_BoxOk.lf0
     ·obtain rfl := Option.some.inj H
      exact impl_BoxOk.lf0
    ·obtain rfl := Bool.eq_false_iff.mpr c9
     rw [if_neg nF] at H
     obtain rfl := Option.some.inj H
     exact impl_BoxOk.lf0
   ·obtain rfl := Bool.eq_false_iff.mpr c7
    rw [if_neg nF] at H
    obtain rfl := Option.some.inj H
    exact impl_BoxOk.lf0
  ·obtain rfl := Bool.eq_false_iff.mpr c5
   rw [if_neg nF] at H
   obtain rfl := Option.some.inj H
   exact impl_BoxOk.lf0
 ·obtain rfl := Bool.eq_false_iff.mpr c3
  rw [if_neg nF] at H
  obtain rfl := Option.some.inj H
  exact impl_BoxOk.lf0

/-! ### impl_PointOk: function 40 -/
def impl_PointOk.f (a2 : Int) (a3 : Int) : Option (Bool) := (impl_coordOk.f a2).bind fun a5 => (if a5 = true then ((impl_coordOk.f a3).bind fun a6 => (some a6)) else (some false))
theorem impl_PointOk.lf0 {p : Prop} (h : p := by
 go_enter Try.func40, Try.ntmps40
 go_wp2_with (first | ((with_reducible refine gD 1 ?_); refine bxE #[.int .i64 a2, .int .i64 a3] 80 ?_; intro a8 hg w5 a5 hb; have GE741 := gE hg; replace HB := hB hb; clear hb hg; have hz6 := cz2 a5) | ((with_reducible refine gC 39 ?_); refine cM (some 5) Try.func39 (impl_coordOk.calls a2 _ _ A2.out) ?_; rintro e w' ⟨rfl, ⟨nd, rfl⟩⟩; refine ⟨_, rfl, ?_⟩) | (go_at_call 39; (with_reducible refine (impl_coordOk.calls a3 a6 _ A4.out).mono ?_); rintro e w' ⟨rfl, ⟨nd, rfl⟩⟩))
 go_ret
 exact ⟨eS, bS⟩) : p := h
theorem impl_PointOk.calls (a2 : Int) (a3 : Int) (r : Bool) (w : World) (h : impl_PointOk.f a2 a3 = some r) :
  Calls Try.prog 40 #[.agg #[.int .i64 a2, .int .i64 a3]] w fun e w' => e = .returned (.bool r) ∧ Below w.heap.size w w' := by
 have hu80 := Try.underlying80
 have HB := aM (Below.refl w.heap.size w)
 have H := h
 clear h
 unfold impl_PointOk.f at H
 replace H := bN H
 obtain ⟨a7, A2, H⟩ := H
 by_cases c3 : a7 = true
 ·subst c3
  rw [if_pos rfl] at H
  replace H := bN H
  obtain ⟨a6, A4, H⟩ := H
  obtain rfl := Option.some.inj H
  exact impl_PointOk.lf0
 ·obtain rfl := Bool.eq_false_iff.mpr c3
  rw [if_neg nF] at H
  obtain rfl := Option.some.inj H
  exact impl_PointOk.lf0

/-! ### impl_pointsOk: function 26 -/
def impl_pointsOk.l0 : Nat → List (S80) → Int → Int → Option (Bool)
 | 0, _, _, _ => none
 | k + 1, x5, x6, x7 => if x7 < x6 then (if 0 ≤ x7 then (if x7 < (x5.length : Int) then ((impl_PointOk.f ((rd_T80 x5 x7).f0) ((rd_T80 x5 x7).f1)).bind fun a2 => (if a2 = true then (impl_pointsOk.l0 k x5 x6 (wrap64 (x7 + 1))) else (some false))) else (none)) else (none)) else (some true)
def impl_pointsOk.f (k : Nat) (l0 : List (S80)) : Option (Bool) := impl_pointsOk.l0 k l0 (l0.length : Int) 0
theorem impl_pointsOk.calls (k : Nat) (A0 : Option Addr) (c0 : Nat) (l0 : List (S80)) (r : Bool) (w : World) (hr0 : Kd.C k80 w A0 l0.length l0) (b7 : l0.length ≤ c0) (h : impl_pointsOk.f k l0 = some r) :
  Calls Try.prog 26 #[.slice A0 l0.length c0] w fun e w' => e = .returned (.bool r) ∧ Below w.heap.size w w' := by
 have hu80 := Try.underlying80
 have b8 := aM hr0
 have d2 := aM b7
 clear hr0 b7
 have HB := aM (Below.refl w.heap.size w)
 have H := h
 clear h
 unfold impl_pointsOk.f at H
 have H' := aM H
 clear H
 go_enter Try.func26, Try.ntmps26
 go_wp2
 go_loopg [7] k (fun kq v7 w' => ∃ (a2 : Int), v7 = .int .i64 a2 ∧ Aside0 (impl_pointsOk.l0 kq l0 (l0.length : Int) a2 = some r) ∧ Aside0 (kq ≤ k) ∧ Aside0 (Below w.heap.size w w'))
 case atStart => exact ⟨(0), fS, H', ⟨Nat.le_refl _⟩, ⟨bS⟩⟩
 case round =>
  clear H'
  obtain ⟨a2, rfl, HA, b9, HB⟩ := hrel
  cases gk with
  | zero => exact absurd HA.out (by simp [impl_pointsOk.l0])
  | succ k1 =>
   have H := HA.out
   clear HA
   simp only [impl_pointsOk.l0] at H
   rcases iD H with ⟨b2, H⟩ | ⟨b2, H⟩
   ·obtain ⟨d0, H⟩ := iT H
    obtain ⟨d1, H⟩ := iT H
    replace H := bN H
    obtain ⟨b6, A5, H⟩ := H
    by_cases c6 : b6 = true
    ·subst c6
     rw [if_pos rfl] at H
     have H' := aM H
     clear H
     have a7 : 0 ≤ (a2 : Int) := dA
     have a8 : a2 < (l0.length : Int) := dA
     obtain ⟨b1, b0, a3, a5⟩ := at_T80 b8.out a2 a7 a8
     cases b0
     replace a3 := cB HB a3
     replace a5 := cB HB a5
     replace a7 := eq_true a7
     replace a8 := eq_true a8
     go_wp2_with (first | ((with_reducible refine gD 4 ?_); refine bxE #[.int .i64 0, .int .i64 0] 80 ?_; intro a9 hg w7 a6 hb; have GE745 := gE hg; replace HB := hB hb; clear hb hg; have hz8 := cz2 a6) | ((with_reducible refine gC 40 ?_); refine cM (some 12) Try.func40 (impl_PointOk.calls ((rd_T80 l0 a2).f0) ((rd_T80 l0 a2).f1) _ _ A5.out) ?_; rintro e w9 ⟨rfl, hb⟩; refine ⟨_, rfl, ?_⟩; replace a6 := kO a9 #[.int .i64 ((rd_T80 l0 a2).f0), .int .i64 ((rd_T80 l0 a2).f1)] 80 hb; replace HB := hB hb; (try clear hb)))
     go_roundg k1
     case measure => have := b9.out; omega
     case rel => exact ⟨(wrap64 (a2 + 1)), fS, H', ⟨by have := b9.out; omega⟩, ⟨bS⟩⟩
    ·obtain rfl := Bool.eq_false_iff.mpr c6
     rw [if_neg nF] at H
     obtain rfl := Option.some.inj H
     have a7 : 0 ≤ (a2 : Int) := dA
     have a8 : a2 < (l0.length : Int) := dA
     obtain ⟨b1, b0, a3, a5⟩ := at_T80 b8.out a2 a7 a8
     cases b0
     replace a3 := cB HB a3
     replace a5 := cB HB a5
     replace a7 := eq_true a7
     replace a8 := eq_true a8
     go_wp2_with (first | ((with_reducible refine gD 4 ?_); refine bxE #[.int .i64 0, .int .i64 0] 80 ?_; intro a9 hg d3 a6 hb; have GE745 := gE hg; replace HB := hB hb; clear hb hg; have hz11 := cz2 a6) | ((with_reducible refine gC 40 ?_); refine cM (some 12) Try.func40 (impl_PointOk.calls ((rd_T80 l0 a2).f0) ((rd_T80 l0 a2).f1) _ _ A5.out) ?_; rintro e d4 ⟨rfl, hb⟩; refine ⟨_, rfl, ?_⟩; replace a6 := kO a9 #[.int .i64 ((rd_T80 l0 a2).f0), .int .i64 ((rd_T80 l0 a2).f1)] 80 hb; replace HB := hB hb; (try clear hb)))
     go_ret
     exact ⟨eS, bS⟩
   ·obtain rfl := Option.some.inj H
    go_wp2
    go_ret
    exact ⟨eS, bS⟩

/-! ### impl_GraphicsOk: function 9 -/
def impl_GraphicsOk.f (k : Nat) (a5 : List Int) (a6 : Int) (a7 : Int) (a8 : Int) (a9 : Int) (a2 : List (S80)) (b0 : Int) (b1 : Int) (b2 : Int) (b6 : Int) (a3 : Int) : Option (Bool) := (impl_StackOk.f k a5).bind fun b7 => (if b7 = true then ((impl_TurnOk.f a6 a7 a8 a9).bind fun b8 => (if b8 = true then ((impl_BoxOk.f b1 b2 b6 a3).bind fun b9 => (if b9 = true then (if (a2.length : Int) ≤ 8 then ((impl_pointsOk.f k a2).bind fun d0 => (if d0 = true then ((impl_within.f b0 0 255).bind fun d1 => (some d1)) else (some false))) else (some false)) else (some false))) else (some false))) else (some false))
theorem impl_GraphicsOk.calls (k : Nat) (d1 : Option Addr) (d2 : Nat) (a7 : List Int) (a8 : Int) (a9 : Int) (b0 : Int) (b1 : Int) (d3 : Option Addr) (d4 : Nat) (a6 : List (S80)) (d0 : Int) (b2 : Int) (b6 : Int) (b7 : Int) (a5 : Int) (r : Bool) (w : World) (d5 : Kd.C (Kd.int .i64) w d1 a7.length a7) (d6 : a7.length ≤ d2) (e0 : Kd.C k80 w d3 a6.length a6) (e1 : a6.length ≤ d4) (h : impl_GraphicsOk.f k a7 a8 a9 b0 b1 a6 d0 b2 b6 b7 a5 = some r) :
  Calls Try.prog 9 #[.agg #[.slice d1 a7.length d2, .int .i64 a8, .int .i64 a9, .int .i64 b0, .int .i64 b1, .slice d3 a6.length d4, .int .i64 d0, .int .i64 b2, .int .i64 b6, .int .i64 b7, .int .i64 a5]] w fun e w' => e = .returned (.bool r) ∧ Below w.heap.size w w' := by
 have hu31 := Try.underlying31
 have hu26 := Try.underlying26
 have hu29 := Try.underlying29
 have b8 := aM d5
 have b9 := aM d6
 clear d5 d6
 have e2 := aM e0
 have e3 := aM e1
 clear e0 e1
 have HB := aM (Below.refl w.heap.size w)
 have H := h
 clear h
 unfold impl_GraphicsOk.f at H
 replace H := bN H
 obtain ⟨h7, A2, H⟩ := H
 by_cases c3 : h7 = true
 ·subst c3
  rw [if_pos rfl] at H
  replace H := bN H
  obtain ⟨h8, A4, H⟩ := H
  by_cases c5 : h8 = true
  ·subst c5
   rw [if_pos rfl] at H
   replace H := bN H
   obtain ⟨h9, A6, H⟩ := H
   by_cases c7 : h9 = true
   ·subst c7
    rw [if_pos rfl] at H
    by_cases c8 : (a6.length : Int) ≤ 8
    ·rw [if_pos c8] at H
     have i1 : decide ((a6.length : Int) ≤ 8) = true := decide_eq_true c8
     have i3 : decide (a6.length ≤ 8) = true := decide_eq_true (by omega)
     clear c8
     replace H := bN H
     obtain ⟨i4, A9, H⟩ := H
     by_cases c10 : i4 = true
     ·subst c10
      rw [if_pos rfl] at H
      replace H := bN H
      obtain ⟨i5, i6, H⟩ := H
      obtain rfl := Option.some.inj H
      go_enter Try.func9, Try.ntmps9
      go_wp2_with (first | ((with_reducible refine gD 1 ?_); refine bxE #[.slice d1 a7.length d2, .int .i64 a8, .int .i64 a9, .int .i64 b0, .int .i64 b1, .slice d3 a6.length d4, .int .i64 d0, .int .i64 b2, .int .i64 b6, .int .i64 b7, .int .i64 a5] 31 ?_; intro a3 hg i7 a2 hb; have GE747 := gE hg; replace HB := hB hb; clear hb hg; have hz13 := cz11 a2) | ((with_reducible refine gC 23 ?_); refine cM (some 5) Try.func23 (impl_StackOk.calls k _ _ a7 _ _ (cC b8 HB) b9.out A2.out) ?_; rintro e w' ⟨rfl, ⟨nd, rfl⟩⟩; refine ⟨_, rfl, ?_⟩) | (go_at_call 24; (with_reducible refine (impl_TurnOk.calls a8 a9 b0 b1 _ _ A4.out).mono ?_); rintro e i8 ⟨rfl, hb⟩; replace a2 := kB_ a3 hb; replace HB := hB hb; (try clear hb); have e8 := cg5 a2; have e9 := cg6 a2; have f0 := cg7 a2; have f3 := cg8 a2; have f4 := cg9 a2; have e4 := cg10 a2) | (go_at_call 25; (with_reducible refine (impl_BoxOk.calls b2 b6 b7 a5 _ _ A6.out).mono ?_); rintro e i9 ⟨rfl, hb⟩; replace a2 := kB_ a3 hb; replace HB := hB hb; (try clear hb); have f5 := cg5 a2; have f6 := cg6 a2) | (go_at_call 26; (with_reducible refine (impl_pointsOk.calls k _ _ a6 _ _ (cC e2 HB) e3.out A9.out).mono ?_); rintro e j5 ⟨rfl, hb⟩; replace a2 := kB_ a3 hb; replace HB := hB hb; (try clear hb); have f7 := cg6 a2) | (go_at_call 27; (with_reducible refine (impl_within.calls d0 0 255 i5 _ i6.out).mono ?_); rintro e w' ⟨rfl, ⟨nd, rfl⟩⟩))
      go_ret
      exact ⟨eS, bS⟩
     ·obtain rfl := Bool.eq_false_iff.mpr c10
      rw [if_neg nF] at H
      obtain rfl := Option.some.inj H
      go_enter Try.func9, Try.ntmps9
      go_wp2_with (first | ((with_reducible refine gD 1 ?_); refine bxE #[.slice d1 a7.length d2, .int .i64 a8, .int .i64 a9, .int .i64 b0, .int .i64 b1, .slice d3 a6.length d4, .int .i64 d0, .int .i64 b2, .int .i64 b6, .int .i64 b7, .int .i64 a5] 31 ?_; intro a3 hg j6 a2 hb; have GE747 := gE hg; replace HB := hB hb; clear hb hg; have hz21 := cz11 a2) | ((with_reducible refine gC 23 ?_); refine cM (some 5) Try.func23 (impl_StackOk.calls k _ _ a7 _ _ (cC b8 HB) b9.out A2.out) ?_; rintro e w' ⟨rfl, ⟨nd, rfl⟩⟩; refine ⟨_, rfl, ?_⟩) | (go_at_call 24; (with_reducible refine (impl_TurnOk.calls a8 a9 b0 b1 _ _ A4.out).mono ?_); rintro e j7 ⟨rfl, hb⟩; replace a2 := kB_ a3 hb; replace HB := hB hb; (try clear hb); have f8 := cg5 a2; have f9 := cg7 a2; have g0 := cg8 a2; have g1 := cg9 a2; have e5 := cg10 a2) | (go_at_call 25; (with_reducible refine (impl_BoxOk.calls b2 b6 b7 a5 _ _ A6.out).mono ?_); rintro e j8 ⟨rfl, hb⟩; replace a2 := kB_ a3 hb; replace HB := hB hb; (try clear hb); have g2 := cg5 a2) | (go_at_call 26; (with_reducible refine (impl_pointsOk.calls k _ _ a6 _ _ (cC e2 HB) e3.out A9.out).mono ?_); rintro e j9 ⟨rfl, hb⟩; replace a2 := kB_ a3 hb; replace HB := hB hb; (try clear hb)))
      go_ret
      exact ⟨eS, bS⟩
    ·rw [if_neg c8] at H
     have i1 : decide ((a6.length : Int) ≤ 8) = false := decide_eq_false c8
     have i3 : decide (a6.length ≤ 8) = false := decide_eq_false (by omega)
     clear c8
     obtain rfl := Option.some.inj H
     go_enter Try.func9, Try.ntmps9
     go_wp2_with (first | ((with_reducible refine gD 1 ?_); refine bxE #[.slice d1 a7.length d2, .int .i64 a8, .int .i64 a9, .int .i64 b0, .int .i64 b1, .slice d3 a6.length d4, .int .i64 d0, .int .i64 b2, .int .i64 b6, .int .i64 b7, .int .i64 a5] 31 ?_; intro a3 hg k0 a2 hb; have GE747 := gE hg; replace HB := hB hb; clear hb hg; have hz28 := cz11 a2) | ((with_reducible refine gC 23 ?_); refine cM (some 5) Try.func23 (impl_StackOk.calls k _ _ a7 _ _ (cC b8 HB) b9.out A2.out) ?_; rintro e w' ⟨rfl, ⟨nd, rfl⟩⟩; refine ⟨_, rfl, ?_⟩) | (go_at_call 24; (with_reducible refine (impl_TurnOk.calls a8 a9 b0 b1 _ _ A4.out).mono ?_); rintro e k1 ⟨rfl, hb⟩; replace a2 := kB_ a3 hb; replace HB := hB hb; (try clear hb); have g3 := cg5 a2; have g4 := cg7 a2; have g5 := cg8 a2; have g6 := cg9 a2; have e6 := cg10 a2) | (go_at_call 25; (with_reducible refine (impl_BoxOk.calls b2 b6 b7 a5 _ _ A6.out).mono ?_); rintro e k2 ⟨rfl, hb⟩; replace a2 := kB_ a3 hb; replace HB := hB hb; (try clear hb); have g7 := cg5 a2))
     go_ret
     exact ⟨eS, bS⟩
   ·obtain rfl := Bool.eq_false_iff.mpr c7
    rw [if_neg nF] at H
    obtain rfl := Option.some.inj H
    go_enter Try.func9, Try.ntmps9
    go_wp2_with (first | ((with_reducible refine gD 1 ?_); refine bxE #[.slice d1 a7.length d2, .int .i64 a8, .int .i64 a9, .int .i64 b0, .int .i64 b1, .slice d3 a6.length d4, .int .i64 d0, .int .i64 b2, .int .i64 b6, .int .i64 b7, .int .i64 a5] 31 ?_; intro a3 hg k3 a2 hb; have GE747 := gE hg; replace HB := hB hb; clear hb hg; have hz34 := cz11 a2) | ((with_reducible refine gC 23 ?_); refine cM (some 5) Try.func23 (impl_StackOk.calls k _ _ a7 _ _ (cC b8 HB) b9.out A2.out) ?_; rintro e w' ⟨rfl, ⟨nd, rfl⟩⟩; refine ⟨_, rfl, ?_⟩) | (go_at_call 24; (with_reducible refine (impl_TurnOk.calls a8 a9 b0 b1 _ _ A4.out).mono ?_); rintro e k4 ⟨rfl, hb⟩; replace a2 := kB_ a3 hb; replace HB := hB hb; (try clear hb); have g8 := cg7 a2; have g9 := cg8 a2; have h0 := cg9 a2; have e7 := cg10 a2) | (go_at_call 25; (with_reducible refine (impl_BoxOk.calls b2 b6 b7 a5 _ _ A6.out).mono ?_); rintro e k5 ⟨rfl, hb⟩; replace a2 := kB_ a3 hb; replace HB := hB hb; (try clear hb)))
    go_ret
    exact ⟨eS, bS⟩
  ·obtain rfl := Bool.eq_false_iff.mpr c5
   rw [if_neg nF] at H
   obtain rfl := Option.some.inj H
   go_enter Try.func9, Try.ntmps9
   go_wp2_with (first | ((with_reducible refine gD 1 ?_); refine bxE #[.slice d1 a7.length d2, .int .i64 a8, .int .i64 a9, .int .i64 b0, .int .i64 b1, .slice d3 a6.length d4, .int .i64 d0, .int .i64 b2, .int .i64 b6, .int .i64 b7, .int .i64 a5] 31 ?_; intro a3 hg k6 a2 hb; have GE747 := gE hg; replace HB := hB hb; clear hb hg; have h1 := cg0 a2; have h2 := cg1 a2; have h3 := cg2 a2; have h4 := cg3 a2; have h5 := cg4 a2) | ((with_reducible refine gC 23 ?_); refine cM (some 5) Try.func23 (impl_StackOk.calls k _ _ a7 _ _ (cC b8 HB) b9.out A2.out) ?_; rintro e w' ⟨rfl, ⟨nd, rfl⟩⟩; refine ⟨_, rfl, ?_⟩) | (go_at_call 24; (with_reducible refine (impl_TurnOk.calls a8 a9 b0 b1 _ _ A4.out).mono ?_); rintro e k7 ⟨rfl, hb⟩; replace a2 := kB_ a3 hb; replace HB := hB hb; (try clear hb)))
   go_ret
   exact ⟨eS, bS⟩
 ·obtain rfl := Bool.eq_false_iff.mpr c3
  rw [if_neg nF] at H
  obtain rfl := Option.some.inj H
  go_enter Try.func9, Try.ntmps9
  go_wp2_with (first | ((with_reducible refine gD 1 ?_); refine bxE #[.slice d1 a7.length d2, .int .i64 a8, .int .i64 a9, .int .i64 b0, .int .i64 b1, .slice d3 a6.length d4, .int .i64 d0, .int .i64 b2, .int .i64 b6, .int .i64 b7, .int .i64 a5] 31 ?_; intro a3 hg k9 a2 hb; have GE747 := gE hg; replace HB := hB hb; clear hb hg; have h6 := cg0 a2) | ((with_reducible refine gC 23 ?_); refine cM (some 5) Try.func23 (impl_StackOk.calls k _ _ a7 _ _ (cC b8 HB) b9.out A2.out) ?_; rintro e w' ⟨rfl, ⟨nd, rfl⟩⟩; refine ⟨_, rfl, ?_⟩))
  go_ret
  exact ⟨eS, bS⟩

/-! ### impl_ObjectOk: function 20 -/
def impl_ObjectOk.f (k : Nat) (a2 : List (S80)) (a3 : Int) (a5 : Int) (a6 : Int) (a7 : Int) (a8 : Int) : Option (Bool) := (impl_within.f (a2.length : Int) 3 8).bind fun a9 => (if a9 = true then ((impl_pointsOk.f k a2).bind fun b0 => (if b0 = true then ((impl_within.f a3 0 255).bind fun b1 => (if b1 = true then ((impl_BoxOk.f a5 a6 a7 a8).bind fun b2 => (some b2)) else (some false))) else (some false))) else (some false))
theorem impl_ObjectOk.calls (k : Nat) (b1 : Option Addr) (b2 : Nat) (a3 : List (S80)) (a6 : Int) (a7 : Int) (a8 : Int) (a9 : Int) (b0 : Int) (r : Bool) (w : World) (b8 : Kd.C k80 w b1 a3.length a3) (b9 : a3.length ≤ b2) (h : impl_ObjectOk.f k a3 a6 a7 a8 a9 b0 = some r) :
  Calls Try.prog 20 #[.agg #[.slice b1 a3.length b2, .int .i64 a6, .int .i64 a7, .int .i64 a8, .int .i64 a9, .int .i64 b0]] w fun e w' => e = .returned (.bool r) ∧ Below w.heap.size w w' := by
 have hu60 := Try.underlying60
 have hu29 := Try.underlying29
 have b6 := aM b8
 have b7 := aM b9
 clear b8 b9
 have HB := aM (Below.refl w.heap.size w)
 have H := h
 clear h
 unfold impl_ObjectOk.f at H
 replace H := bN H
 obtain ⟨e9, A2, H⟩ := H
 by_cases c3 : e9 = true
 ·subst c3
  rw [if_pos rfl] at H
  replace H := bN H
  obtain ⟨f0, A4, H⟩ := H
  by_cases c5 : f0 = true
  ·subst c5
   rw [if_pos rfl] at H
   replace H := bN H
   obtain ⟨f3, A6, H⟩ := H
   by_cases c7 : f3 = true
   ·subst c7
    rw [if_pos rfl] at H
    replace H := bN H
    obtain ⟨f4, A8, H⟩ := H
    obtain rfl := Option.some.inj H
    go_enter Try.func20, Try.ntmps20
    go_wp2_with (first | ((with_reducible refine gD 1 ?_); refine bxE #[.slice b1 a3.length b2, .int .i64 a6, .int .i64 a7, .int .i64 a8, .int .i64 a9, .int .i64 b0] 60 ?_; intro a5 hg w9 a2 hb; have GE753 := gE hg; replace HB := hB hb; clear hb hg; have d0 := cg0 a2; have d1 := cg1 a2; have d2 := cg2 a2; have d3 := cg3 a2; have d4 := cg4 a2; have d5 := cg5 a2) | ((with_reducible refine gC 27 ?_); refine cM (some 6) Try.func27 (impl_within.calls (a3.length : Int) 3 8 _ _ A2.out) ?_; rintro e w' ⟨rfl, ⟨nd, rfl⟩⟩; refine ⟨_, rfl, ?_⟩) | (go_at_call 26; (with_reducible refine (impl_pointsOk.calls k _ _ a3 _ _ (cS (Kd.C_below b6.out bS)) b7.out A4.out).mono ?_); rintro e f5 ⟨rfl, hb⟩; replace a2 := kB_ a5 hb; replace HB := hB hb; (try clear hb); have d6 := cg1 a2; have e0 := cg2 a2; have e1 := cg3 a2; have e2 := cg4 a2; have e3 := cg5 a2) | (go_at_call 27; (with_reducible refine (impl_within.calls a6 0 255 _ _ A6.out).mono ?_); rintro e w' ⟨rfl, ⟨nd, rfl⟩⟩) | (go_at_call 25; (with_reducible refine (impl_BoxOk.calls a7 a8 a9 b0 f4 _ A8.out).mono ?_); rintro e f6 ⟨rfl, hb⟩; replace a2 := kB_ a5 hb; replace HB := hB hb; (try clear hb)))
    go_ret
    exact ⟨eS, bS⟩
   ·obtain rfl := Bool.eq_false_iff.mpr c7
    rw [if_neg nF] at H
    obtain rfl := Option.some.inj H
    go_enter Try.func20, Try.ntmps20
    go_wp2_with (first | ((with_reducible refine gD 1 ?_); refine bxE #[.slice b1 a3.length b2, .int .i64 a6, .int .i64 a7, .int .i64 a8, .int .i64 a9, .int .i64 b0] 60 ?_; intro a5 hg f7 a2 hb; have GE753 := gE hg; replace HB := hB hb; clear hb hg; have e4 := cg0 a2; have e5 := cg1 a2) | ((with_reducible refine gC 27 ?_); refine cM (some 6) Try.func27 (impl_within.calls (a3.length : Int) 3 8 _ _ A2.out) ?_; rintro e w' ⟨rfl, ⟨nd, rfl⟩⟩; refine ⟨_, rfl, ?_⟩) | (go_at_call 26; (with_reducible refine (impl_pointsOk.calls k _ _ a3 _ _ (cS (Kd.C_below b6.out bS)) b7.out A4.out).mono ?_); rintro e f8 ⟨rfl, hb⟩; replace a2 := kB_ a5 hb; replace HB := hB hb; (try clear hb); have e6 := cg1 a2) | (go_at_call 27; (with_reducible refine (impl_within.calls a6 0 255 _ _ A6.out).mono ?_); rintro e w' ⟨rfl, ⟨nd, rfl⟩⟩))
    go_ret
    exact ⟨eS, bS⟩
  ·obtain rfl := Bool.eq_false_iff.mpr c5
   rw [if_neg nF] at H
   obtain rfl := Option.some.inj H
   go_enter Try.func20, Try.ntmps20
   go_wp2_with (first | ((with_reducible refine gD 1 ?_); refine bxE #[.slice b1 a3.length b2, .int .i64 a6, .int .i64 a7, .int .i64 a8, .int .i64 a9, .int .i64 b0] 60 ?_; intro a5 hg f9 a2 hb; have GE753 := gE hg; replace HB := hB hb; clear hb hg; have e7 := cg0 a2) | ((with_reducible refine gC 27 ?_); refine cM (some 6) Try.func27 (impl_within.calls (a3.length : Int) 3 8 _ _ A2.out) ?_; rintro e w' ⟨rfl, ⟨nd, rfl⟩⟩; refine ⟨_, rfl, ?_⟩) | (go_at_call 26; (with_reducible refine (impl_pointsOk.calls k _ _ a3 _ _ (cS (Kd.C_below b6.out bS)) b7.out A4.out).mono ?_); rintro e g0 ⟨rfl, hb⟩; replace a2 := kB_ a5 hb; replace HB := hB hb; (try clear hb)))
   go_ret
   exact ⟨eS, bS⟩
 ·obtain rfl := Bool.eq_false_iff.mpr c3
  rw [if_neg nF] at H
  obtain rfl := Option.some.inj H
  go_enter Try.func20, Try.ntmps20
  go_wp2_with (first | ((with_reducible refine gD 1 ?_); refine bxE #[.slice b1 a3.length b2, .int .i64 a6, .int .i64 a7, .int .i64 a8, .int .i64 a9, .int .i64 b0] 60 ?_; intro a5 hg g1 a2 hb; have GE753 := gE hg; replace HB := hB hb; clear hb hg; have e8 := cg0 a2) | ((with_reducible refine gC 27 ?_); refine cM (some 6) Try.func27 (impl_within.calls (a3.length : Int) 3 8 _ _ A2.out) ?_; rintro e w' ⟨rfl, ⟨nd, rfl⟩⟩; refine ⟨_, rfl, ?_⟩))
  go_ret
  exact ⟨eS, bS⟩

end Go.Proofs.Ytjodcfjaedhpeaa.QFnPages
