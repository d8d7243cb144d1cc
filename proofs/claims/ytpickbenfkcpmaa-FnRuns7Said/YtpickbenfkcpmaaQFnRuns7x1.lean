-- Made out of the translation by a program of this session (a changed copy of the print). Not trusted: Lean checks it.
import Derived.Test.YtpickbenfkcpmaaQFnRuns7x0
namespace Go.Proofs.Ytpickbenfkcpmaa.QFnRuns7
open Go.RowKit Go.Proofs.YtpickbenfkcpmaaW.PrintWords Go.Proofs.YtpickbenfkcpmaaW.PrintLast Go.Proofs.YtpickbenfkcpmaaW.PrintMore
attribute [local go_sem] max2_int min2_int max_two min_two max_three min_three max_four min_four   -- for this text's walks alone
set_option linter.unusedVariables false
set_option linter.unusedSimpArgs false
set_option maxHeartbeats 8000000
set_option maxRecDepth 100000

/-! ### laws_big: function 4 -/
def laws_big.f (l0 : List Int) : Option (Bool) := some (decide ((l0.length : Int) > 1048576))
theorem laws_big.calls (A0 : Option Addr) (c0 : Nat) (l0 : List Int) (r : Bool) (w : World) (hr0 : Kd.C (Kd.int .u8) w A0 l0.length l0) (a2 : l0.length ≤ c0) (h : laws_big.f l0 = some r) :
  Calls Try.prog 4 #[.slice A0 l0.length c0] w fun e w' => e = .returned (.bool r) ∧ Drawn0 w w' := by
 have a3 := aM hr0
 have a5 := aM a2
 clear hr0 a2
 have H := h
 clear h
 unfold laws_big.f at H
 obtain rfl := Option.some.inj H
 go_enter Try.func4, Try.ntmps4
 go_wp2
 go_ret
 exact ⟨fS, dS⟩

/-- A state of type 71 at block g of W; what its slices lead to came in by w0. -/
def IsS71 (w0 W : World) (g : Nat) (f0 : List Int) (f1 : Int) (f2 : Int) : Prop := ∃ A0 c0, W.heap[g]? = some (.cells #[.slice A0 f0.length c0, .int .i64 f1, .int .i64 f2] 71 (0, 0)) ∧ w0.heap.size ≤ g ∧ Kd.C (Kd.int .u8) w0 A0 f0.length f0
theorem IsS71.grown {w0 W : World} {g : Nat} {f0 : List Int} {f1 : Int} {f2 : Int} {W1 : World} {row : Option Nat} (h : IsS71 w0 W g f0 f1 f2) (hw : W.grownBy W1 row) (hne : some g ≠ row) : IsS71 w0 W1 g f0 f1 f2 := by
 obtain ⟨A0, c0, hb, hg, hr0⟩ := h
 exact ⟨A0, c0, blk_grown hb hw hne, hg, hr0⟩
theorem IsS71.own_neN {w0 W : World} {g : Nat} {f0 : List Int} {f1 : Int} {f2 : Int} {α : Type} {d : Kd α} {e : Nat} {base : Nat} {ok : Nat → Prop} {v : Value} {xs : List α} (h : IsS71 w0 W g f0 f1 f2) (ho : Kd.N d e W base ok v xs) (ht : e ≠ 71) : some g ≠ v.ownBlock := by
 obtain ⟨A0, c0, hb, hg, hr0⟩ := h
 exact Kd.N_ne ho hb ht
theorem IsS71.fresh {w0 W : World} {g : Nat} {f0 : List Int} {f1 : Int} {f2 : Int} (h : IsS71 w0 W g f0 f1 f2) : ∀ k, W.heap.size ≤ k → k ≠ g := by
 obtain ⟨A0, c0, hb, hg, hr0⟩ := h
 exact Kd.freshB hb
theorem IsS71.kept {w0 W : World} {g : Nat} {f0 : List Int} {f1 : Int} {f2 : Int} {W1 : World} {S : Nat → Prop} (h : IsS71 w0 W g f0 f1 f2) (hk : Kept W W1 S) (hne : ¬ S g) : IsS71 w0 W1 g f0 f1 f2 := by
 obtain ⟨A0, c0, hb, hg, hr0⟩ := h
 exact ⟨A0, c0, blk_kept hb hk hne, hg, hr0⟩
theorem IsS71.below {w0 W : World} {g : Nat} {f0 : List Int} {f1 : Int} {f2 : Int} {W1 : World} (h : IsS71 w0 W g f0 f1 f2) (hw : Below W.heap.size W W1) : IsS71 w0 W1 g f0 f1 f2 := h.grown (grown_of_below hw none) (by simp)
theorem IsS71.alloc {w0 W : World} {g : Nat} {f0 : List Int} {f1 : Int} {f2 : Int} (h : IsS71 w0 W g f0 f1 f2) (o : Obj) : IsS71 w0 (W.alloc o) g f0 f1 f2 := h.below (below_alloc (Below.refl _ _) o)
theorem IsS71.drewN {w0 W : World} {g : Nat} {f0 : List Int} {f1 : Int} {f2 : Int} (h : IsS71 w0 W g f0 f1 f2) (m : Nat) : IsS71 w0 (W.drewN m) g f0 f1 f2 := h
theorem IsS71.drew {w0 W : World} {g : Nat} {f0 : List Int} {f1 : Int} {f2 : Int} (h : IsS71 w0 W g f0 f1 f2) : IsS71 w0 W.drew g f0 f1 f2 := h
theorem IsS71.at_ {w0 W : World} {g : Nat} {f0 : List Int} {f1 : Int} {f2 : Int} {w' : World} {m : Nat} (hq : W.drewN m = w') (h : IsS71 w0 W g f0 f1 f2) : IsS71 w0 w' g f0 f1 f2 := by subst hq; exact IsS71.drewN h m
theorem IsS71.apart {w0 W : World} {g : Nat} {f0 : List Int} {f1 : Int} {f2 : Int} {α : Type} {d : Kd α} {e : Nat} {base : Nat} {ok : Nat → Prop} {v : Value} {xs : List α} (h : IsS71 w0 W g f0 f1 f2) (ho : d.R e W base ok v xs) (ht : ∀ q, q ∈ e :: d.E → q ≠ 71) : d.R e W base (fun k => ok k ∧ k ≠ g) v xs := by
 obtain ⟨A0, c0, hb, hg, hr0⟩ := h
 exact Kd.R_types ho hb ht
theorem IsS71.own_ne {w0 W : World} {g : Nat} {f0 : List Int} {f1 : Int} {f2 : Int} {α : Type} {d : Kd α} {e : Nat} {base : Nat} {ok : Nat → Prop} {v : Value} {xs : List α} (h : IsS71 w0 W g f0 f1 f2) (ho : d.R e W base ok v xs) (ht : e ≠ 71) : some g ≠ v.ownBlock := by
 obtain ⟨A0, c0, hb, hg, hr0⟩ := h
 exact Kd.R_ne ho hb ht
theorem IsS71.apartQ {w0 W : World} {g : Nat} {f0 : List Int} {f1 : Int} {f2 : Int} {α : Type} {d : Kd α} {e : Nat} {base : Nat} {ok : Nat → Prop} {v : Value} {xs : List α} (h : IsS71 w0 W g f0 f1 f2) (ho : d.Q e W base ok v xs) (ht : ∀ q, q ∈ e :: d.E → q ≠ 71) : d.Q e W base (fun k => ok k ∧ k ≠ g) v xs := by
 obtain ⟨A0, c0, hb, hg, hr0⟩ := h
 exact Kd.Q_types ho hb ht
theorem IsS71.own_neQ {w0 W : World} {g : Nat} {f0 : List Int} {f1 : Int} {f2 : Int} {α : Type} {d : Kd α} {e : Nat} {base : Nat} {ok : Nat → Prop} {v : Value} {xs : List α} (h : IsS71 w0 W g f0 f1 f2) (ho : d.Q e W base ok v xs) (ht : e ≠ 71) : some g ≠ v.ownBlock := by
 obtain ⟨A0, c0, hb, hg, hr0⟩ := h
 exact Kd.Q_ne ho hb ht
theorem IsS71.apartS {w0 W : World} {g : Nat} {f0 : List Int} {f1 : Int} {f2 : Int} {α : Type} {d : Kd α} {e : Nat} {base : Nat} {ok : Nat → Prop} {v : Value} {xs : List α} (h : IsS71 w0 W g f0 f1 f2) (ho : d.S e W base ok v xs) (ht : ∀ q, q ∈ e :: d.E → q ≠ 71) : d.S e W base (fun k => ok k ∧ k ≠ g) v xs := by
 obtain ⟨A0, c0, hb, hg, hr0⟩ := h
 exact Kd.S_types ho hb ht
theorem IsS71.own_neS {w0 W : World} {g : Nat} {f0 : List Int} {f1 : Int} {f2 : Int} {α : Type} {d : Kd α} {e : Nat} {base : Nat} {ok : Nat → Prop} {v : Value} {xs : List α} (h : IsS71 w0 W g f0 f1 f2) (ho : d.S e W base ok v xs) (ht : e ≠ 71) : some g ≠ v.ownBlock := by
 obtain ⟨A0, c0, hb, hg, hr0⟩ := h
 exact Kd.S_ne ho hb ht
theorem IsS71.lt {w0 W : World} {g : Nat} {f0 : List Int} {f1 : Int} {f2 : Int} (h : IsS71 w0 W g f0 f1 f2) : g < W.heap.size := by
 obtain ⟨A0, c0, hb, hg, hr0⟩ := h
 exact blk_lt hb
theorem IsS71.ge {w0 W : World} {g : Nat} {f0 : List Int} {f1 : Int} {f2 : Int} (h : IsS71 w0 W g f0 f1 f2) : w0.heap.size ≤ g := by
 obtain ⟨A0, c0, hb, hg, hr0⟩ := h
 exact hg
theorem IsS71.ne_blk {w0 W : World} {g : Nat} {f0 : List Int} {f1 : Int} {f2 : Int} {a : Nat} {cs : Array Value} {t : TypeId} {fr : Nat × Nat} (h : IsS71 w0 W g f0 f1 f2) (a2 : W.heap[a]? = some (.cells cs t fr)) (ht : t ≠ 71) : g ≠ a := by
 obtain ⟨A0, c0, hb, hg, hr0⟩ := h
 rintro rfl
 rw [hb] at a2
 injection a2 with a2
 injection a2 with _ ht2
 exact ht ht2.symm
theorem IsS71.far {w0 W : World} {g : Nat} {f0 : List Int} {f1 : Int} {f2 : Int} {p : Addr} (h : IsS71 w0 W g f0 f1 f2) (hne : g ≠ p.block) (u : Value) : IsS71 w0 (W.setCell p u) g f0 f1 f2 := by
 obtain ⟨A0, c0, hb, hg, hr0⟩ := h
 exact ⟨A0, c0, blk_far hb hne u, hg, hr0⟩
theorem cellS71_0 {W : World} {g : Nat} {A0 : Option Addr} {c0 : Nat} {f0 : List Int} {f1 : Int} {f2 : Int} (h : W.heap[g]? = some (.cells #[.slice A0 f0.length c0, .int .i64 f1, .int .i64 f2] 71 (0, 0))) : W.cell? ⟨g, 0, none⟩ = some (.slice A0 f0.length c0) := (blk_cell h 0).trans rfl
theorem cellS71_1 {W : World} {g : Nat} {A0 : Option Addr} {c0 : Nat} {f0 : List Int} {f1 : Int} {f2 : Int} (h : W.heap[g]? = some (.cells #[.slice A0 f0.length c0, .int .i64 f1, .int .i64 f2] 71 (0, 0))) : W.cell? ⟨g, 1, none⟩ = some (.int .i64 f1) := (blk_cell h 1).trans rfl
theorem IsS71.set_1 {w0 W : World} {g : Nat} {f0 : List Int} {f1 : Int} {f2 : Int} (h : IsS71 w0 W g f0 f1 f2) (x : Int) : IsS71 w0 (W.setCell ⟨g, 1, none⟩ (.int .i64 x)) g f0 x f2 := by
 obtain ⟨A0, c0, hb, hg, hr0⟩ := h
 exact ⟨A0, c0, by simpa using blk_set hb 1 (.int .i64 x), hg, hr0⟩
theorem cellS71_2 {W : World} {g : Nat} {A0 : Option Addr} {c0 : Nat} {f0 : List Int} {f1 : Int} {f2 : Int} (h : W.heap[g]? = some (.cells #[.slice A0 f0.length c0, .int .i64 f1, .int .i64 f2] 71 (0, 0))) : W.cell? ⟨g, 2, none⟩ = some (.int .i64 f2) := (blk_cell h 2).trans rfl
theorem IsS71.set_2 {w0 W : World} {g : Nat} {f0 : List Int} {f1 : Int} {f2 : Int} (h : IsS71 w0 W g f0 f1 f2) (x : Int) : IsS71 w0 (W.setCell ⟨g, 2, none⟩ (.int .i64 x)) g f0 f1 x := by
 obtain ⟨A0, c0, hb, hg, hr0⟩ := h
 exact ⟨A0, c0, by simpa using blk_set hb 2 (.int .i64 x), hg, hr0⟩
theorem IsS71.new (w0 W : World) (A0 : Option Addr) (c0 : Nat) (f0 : List Int) (f1 : Int) (f2 : Int) (hB : Below w0.heap.size w0 W) (hr0 : Kd.C (Kd.int .u8) w0 A0 f0.length f0) : IsS71 w0 (W.alloc (.cells #[.slice A0 f0.length c0, .int .i64 f1, .int .i64 f2] 71)) W.heap.size f0 f1 f2 := ⟨A0, c0, by simpa using heap_alloc_new W _, hB.size, hr0⟩

theorem iS71 {w0 W W2 : World} {g : Nat} {f0 : List Int} {f1 : Int} {f2 : Int} {y0 : List Int} {y1 : Int} {y2 : Int} (h : Aside0 (IsS71 w0 W g f0 f1 f2)) (p : IsS71 w0 W g f0 f1 f2 → IsS71 w0 W2 g y0 y1 y2 := by intro h_; repeat (first | (with_reducible first | exact h_ | apply IsS71.alloc | apply IsS71.drewN | apply IsS71.drew | apply IsS71.set_1 | apply IsS71.set_2) | exact h_)) : IsS71 w0 W2 g y0 y1 y2 := p h.out
/-! ### spec_l01New: function 11 -/
def spec_l01New.l0 : Nat → List Int → Int → Int → Option (List Int × Int × Int)
 | 0, _, _, _ => none
 | k + 1, x0, x3, x4 => if x4 < (x0.length : Int) then (if x4 < 4000 then (if 0 ≤ x4 then (spec_l01New.l0 k x0 (Go.bits .and .i64 (wrap64 ((wrap64 ((wrap64 (x3 * 131)) + (wrap64 (rd x0 x4)))) + 7)) 1073741823) (wrap64 (x4 + 1))) else (none)) else (some (x0, 0, x3))) else (some (x0, 0, x3))
def spec_l01New.f (k : Nat) (l0 : List Int) : Option (List Int × Int × Int) := spec_l01New.l0 k l0 (wrap64 (98729 + (l0.length : Int))) 0
theorem spec_l01New.calls (k : Nat) (A0 : Option Addr) (c0 : Nat) (l0 : List Int) (r1 : List Int) (r2 : Int) (r3 : Int) (w0 w : World) (hB : Below w0.heap.size w0 w) (hr0 : Kd.C (Kd.int .u8) w0 A0 l0.length l0) (b7 : l0.length ≤ c0) (h : spec_l01New.f k l0 = some (r1, r2, r3)) :
  Calls Try.prog 11 #[.slice A0 l0.length c0] w fun e w' => ∃ g_ : Nat, e = .returned (.pointer (some ⟨g_, 0, none⟩)) ∧ IsS71 w0 w' g_ r1 r2 r3 ∧ Below w0.heap.size w0 w' ∧ Below w.heap.size w w' := by
 have hu71 := Try.underlying71
 have b0 := aM hr0
 have d3 := aM b7
 clear hr0 b7
 have HBW := aM (Below.refl w.heap.size w)
 have HW0 := aM hB.size
 have HB := aM hB
 clear hB
 have H := h
 clear h
 unfold spec_l01New.f at H
 have H' := aM H
 clear H
 go_enter Try.func11, Try.ntmps11
 go_wp2
 go_loopg [3, 4] k (fun kq v3 v4 w' => ∃ (a2 : Int) (a3 : Int), v3 = .int .i64 a2 ∧ v4 = .int .i64 a3 ∧ Aside0 (spec_l01New.l0 kq l0 a2 a3 = some (r1, r2, r3)) ∧ Aside0 (kq ≤ k) ∧ Aside0 (Below w0.heap.size w0 w') ∧ Aside0 (Below w.heap.size w w'))
 case atStart => exact ⟨(wrap64 (98729 + (l0.length : Int))), (0), fS, fS, H', ⟨Nat.le_refl _⟩, ⟨bS⟩, ⟨by repeat (first | (with_reducible first | exact HBW.out | apply below_alloc | apply pw_below_drewN | apply below_drew1) | exact HBW.out)⟩⟩
 case round =>
  clear H'
  try clear c1
  obtain ⟨a2, a3, rfl, rfl, HA, b8, HB, HBW⟩ := hrel
  cases gk with
  | zero => exact absurd HA.out (by simp [spec_l01New.l0])
  | succ k1 =>
   have H := HA.out
   clear HA
   simp only [spec_l01New.l0] at H
   rcases iD H with ⟨b1, H⟩ | ⟨b1, H⟩
   ·rcases iD H with ⟨b2, H⟩ | ⟨b2, H⟩
    ·obtain ⟨d2, H⟩ := iT H
     have H' := aM H
     clear H
     have a8 : 0 ≤ (a3 : Int) := dA
     have a9 : a3 < (l0.length : Int) := dA
     obtain ⟨b9, b6, a5⟩ := Kd.at_int b0.out a3 a8 a9
     cases b6
     replace a5 := pw_cell_below HB.out a5
     replace a8 := eq_true a8
     replace a9 := eq_true a9
     go_wp2
     go_roundg k1
     case measure => have := b8.out; omega
     case rel => exact ⟨(Go.bits .and .i64 (wrap64 ((wrap64 ((wrap64 (a2 * 131)) + (wrap64 (rd l0 a3)))) + 7)) 1073741823), (wrap64 (a3 + 1)), fS, fS, H', ⟨by have := b8.out; omega⟩, ⟨bS⟩, ⟨by repeat (first | (with_reducible first | exact HBW.out | apply below_alloc | apply pw_below_drewN | apply below_drew1) | exact HBW.out)⟩⟩
    ·obtain ⟨rfl, rfl, rfl⟩ := sI3 H
     go_wp2_with (first | ((with_reducible refine gD 31 ?_); refine bxE #[.slice A0 l0.length c0, .int .i64 0, .int .i64 a2] 71 ?_; intro a6 hg w5 d0 hb; have GW102 := aM ((by rw [hg]; exact (below_size (by repeat (first | (with_reducible first | exact HBW.out | apply below_alloc | apply pw_below_drewN | apply below_drew1) | exact HBW.out))) : w.heap.size ≤ a6)); have GE102 := aM ((Nat.le_trans HW0.out (by rw [hg]; exact (below_size (by repeat (first | (with_reducible first | exact HBW.out | apply below_alloc | apply pw_below_drewN | apply below_drew1) | exact HBW.out))) : w.heap.size ≤ a6) : w0.heap.size ≤ a6)); replace HBW := aM (below_step HBW.out hb); replace HB := hB hb; clear hb hg))
     go_ret
     exact ⟨_, rfl, (show IsS71 w0 _ a6 l0 0 a2 from ⟨_, _, kS, GE102.out, b0.out⟩), bS, by repeat (first | (with_reducible first | exact HBW.out | apply below_alloc | apply pw_below_drewN | apply below_drew1 | refine below_set ?_ GW102.out) | exact HBW.out)⟩
   ·obtain ⟨rfl, rfl, rfl⟩ := sI3 H
    go_wp2_with (first | ((with_reducible refine gD 31 ?_); refine bxE #[.slice A0 l0.length c0, .int .i64 0, .int .i64 a2] 71 ?_; intro a7 hg w6 d1 hb; have GW103 := aM ((by rw [hg]; exact (below_size (by repeat (first | (with_reducible first | exact HBW.out | apply below_alloc | apply pw_below_drewN | apply below_drew1) | exact HBW.out))) : w.heap.size ≤ a7)); have GE103 := aM ((Nat.le_trans HW0.out (by rw [hg]; exact (below_size (by repeat (first | (with_reducible first | exact HBW.out | apply below_alloc | apply pw_below_drewN | apply below_drew1) | exact HBW.out))) : w.heap.size ≤ a7) : w0.heap.size ≤ a7)); replace HBW := aM (below_step HBW.out hb); replace HB := hB hb; clear hb hg))
    go_ret
    exact ⟨_, rfl, (show IsS71 w0 _ a7 l0 0 a2 from ⟨_, _, kS, GE103.out, b0.out⟩), bS, by repeat (first | (with_reducible first | exact HBW.out | apply below_alloc | apply pw_below_drewN | apply below_drew1 | refine below_set ?_ GW103.out) | exact HBW.out)⟩

/-! ### spec_l01Byte: function 48 -/
def spec_l01Byte.f (a5 : List Int) (a3 : Int) (a2 : Int) : Option (Int × Int × Int) := if a3 < (a5.length : Int) then (if 0 ≤ a3 then (some (Go.bits .and .i64 (wrap64 ((Go.bits .and .i64 (Go.bits .xor .i64 ((wrap64 ((wrap64 (a2 * 6364136223846793005)) + 1442695040888963407)) / 8589934592) ((wrap64 ((wrap64 (a2 * 6364136223846793005)) + 1442695040888963407)) / 35184372088832)) 255) + (wrap64 (rd a5 a3)))) 255, wrap64 (a3 + 1), wrap64 ((wrap64 (a2 * 6364136223846793005)) + 1442695040888963407))) else (none)) else (some (Go.bits .and .i64 (Go.bits .xor .i64 ((wrap64 ((wrap64 (a2 * 6364136223846793005)) + 1442695040888963407)) / 8589934592) ((wrap64 ((wrap64 (a2 * 6364136223846793005)) + 1442695040888963407)) / 35184372088832)) 255, a3, wrap64 ((wrap64 (a2 * 6364136223846793005)) + 1442695040888963407)))
theorem spec_l01Byte.lf0 {p : Prop} (h : p := by
 go_enter Try.func48, Try.ntmps48
 go_wp2
 repeat (go_quiet (fail); try go_wp2)
 go_ret
 exact ⟨eS, iS71 HI0, bI HB (IsS71.ge HI0.out), by repeat (first | (with_reducible first | exact HK.out | apply KeepBut.set_ | apply keep_drewN | apply keep_drew | apply keep_alloc) | exact HK.out)⟩) : p := h
theorem spec_l01Byte.calls (g : Nat) (a5 : List Int) (a3 : Int) (a6 : Int) (r1 : Int) (r2 : Int) (r3 : Int) (w0 w : World) (hI : IsS71 w0 w g a5 a3 a6) (hB : Below w0.heap.size w0 w) (h : spec_l01Byte.f a5 a3 a6 = some (r1, r2, r3)) :
  Calls Try.prog 48 #[.pointer (some ⟨g, 0, none⟩)] w fun e w' => e = .returned (.int .i64 r1) ∧ IsS71 w0 w' g a5 r2 r3 ∧ Below w0.heap.size w0 w' ∧ KeepBut w w' g none := by
 have HI0 := aM hI
 have HK := aM (KeepBut.refl w g none)
 have HL := aM hB.size
 clear hI
 have HW0 := aM hB.size
 have HB := aM hB
 clear hB
 have H := h
 clear h
 unfold spec_l01Byte.f at H
 rcases iD H with ⟨b0, H⟩ | ⟨b0, H⟩
 ·obtain ⟨d5, H⟩ := iT H
  obtain ⟨rfl, rfl, rfl⟩ := sI3 H
  obtain ⟨ASz4_0, cSz4_0, HGz4, hgz4, HSz4_0⟩ := HI0.out
  have b1 := cellS71_0 HGz4
  have b2 := cellS71_1 HGz4
  have b6 := cellS71_2 HGz4
  have b7 := blk_frozen HGz4 1
  have b8 := blk_frozen HGz4 2
  clear HGz4 hgz4
  have a7 : 0 ≤ (a3 : Int) := dA
  have a8 : a3 < (a5.length : Int) := dA
  obtain ⟨a9, b9, a2⟩ := Kd.at_int HSz4_0 a3 a7 a8
  cases b9
  have hn104_0 : a9.block ≠ g := Nat.ne_of_lt (Nat.lt_of_lt_of_le (by have := World.block_lt_of_cell? _ _ a2; first | rwa [add_block] at this | exact this) (IsS71.ge HI0.out))
  replace a2 := pw_cell_below HB.out a2
  replace a2 := (cell_far (p := ⟨g, 2, none⟩) (by first | (rw [add_block]; exact hn104_0) | (show (Addr.add _ _).block ≠ _; rw [add_block]; exact hn104_0) | exact hn104_0) (.int .i64 (wrap64 ((wrap64 (a6 * 6364136223846793005)) + 1442695040888963407)))).trans a2
  (try have hy104_0 := fun (n_ : Nat) => (show (((w.drewN n_).setCell ⟨g, 2, none⟩ (.int .i64 (wrap64 ((wrap64 (a6 * 6364136223846793005)) + 1442695040888963407))))).cell? _ = some _ from a2))
  clear hn104_0
  replace a7 := eq_true a7
  replace a8 := eq_true a8
  exact spec_l01Byte.lf0
 ·obtain ⟨rfl, rfl, rfl⟩ := sI3 H
  obtain ⟨ASz5_0, cSz5_0, HGz5, hgz5, HSz5_0⟩ := HI0.out
  have d0 := cellS71_0 HGz5
  have d1 := cellS71_1 HGz5
  have d2 := cellS71_2 HGz5
  have d3 := blk_frozen HGz5 1
  have d4 := blk_frozen HGz5 2
  clear HGz5 hgz5
  exact spec_l01Byte.lf0

/-! ### spec_l01Below: function 28 -/
def spec_l01Below.f (a2 : List Int) (a9 : Int) (b0 : Int) (a1 : Int) : Option (Int × Int × Int) := if a1 ≤ 0 then (some (0, a9, b0)) else (if a1 ≤ 256 then ((spec_l01Byte.f a2 a9 b0).bind fun a3 => (if a1 = 0 then (none) else (some (Int.tmod a3.1 a1, a3.2.1, a3.2.2)))) else ((spec_l01Byte.f a2 a9 b0).bind fun a5 => ((spec_l01Byte.f a2 a5.2.1 a5.2.2).bind fun a6 => ((spec_l01Byte.f a2 a6.2.1 a6.2.2).bind fun a7 => ((spec_l01Byte.f a2 a7.2.1 a7.2.2).bind fun a8 => (if a1 = 0 then (none) else (some (Int.tmod (wrap64 ((wrap64 ((wrap64 ((wrap64 (a5.1 * 16777216)) + (wrap64 (a6.1 * 65536)))) + (wrap64 (a7.1 * 256)))) + a8.1)) a1, a8.2.1, a8.2.2))))))))
theorem spec_l01Below.calls (g : Nat) (a2 : List Int) (a3 : Int) (a5 : Int) (a1 : Int) (r1 : Int) (r2 : Int) (r3 : Int) (w0 w : World) (hI : IsS71 w0 w g a2 a3 a5) (hB : Below w0.heap.size w0 w) (h : spec_l01Below.f a2 a3 a5 a1 = some (r1, r2, r3)) :
  Calls Try.prog 28 #[.pointer (some ⟨g, 0, none⟩), .int .i64 a1] w fun e w' => e = .returned (.int .i64 r1) ∧ IsS71 w0 w' g a2 r2 r3 ∧ Below w0.heap.size w0 w' ∧ KeepBut w w' g none := by
 have HI0 := aM hI
 have HK := aM (KeepBut.refl w g none)
 have HL := aM hB.size
 clear hI
 have HW0 := aM hB.size
 have HB := aM hB
 clear hB
 have H := h
 clear h
 unfold spec_l01Below.f at H
 rcases iD H with ⟨b6, H⟩ | ⟨b6, H⟩
 ·obtain ⟨rfl, rfl, rfl⟩ := sI3 H
  go_enter Try.func28, Try.ntmps28
  go_wp2
  go_ret
  exact ⟨eS, iS71 HI0, bI HB (IsS71.ge HI0.out), by repeat (first | (with_reducible first | exact HK.out | apply KeepBut.set_ | apply keep_drewN | apply keep_drew | apply keep_alloc) | exact HK.out)⟩
 ·rcases iD H with ⟨b7, H⟩ | ⟨b7, H⟩
  ·replace H := bN H
   obtain ⟨⟨b8, b9, d0⟩, A5, H⟩ := H
   by_cases c6 : a1 = 0
   ·rw [if_pos c6] at H
    exact absurd H (by simp)
   ·rw [if_neg c6] at H
    have e2 : (a1 == 0) = false := beq_eq_false_iff_ne.mpr c6
    have e3 : (a1 != 0) = true := bne_iff_ne.mpr c6
    obtain ⟨rfl, rfl, rfl⟩ := sI3 H
    go_enter Try.func28, Try.ntmps28
    go_wp2_with (first | ((with_reducible refine gC 48 ?_); refine cL (some 14) Try.func48 #[.pointer (some ⟨g, 0, none⟩)] ?_; (with_reducible refine (spec_l01Byte.calls g a2 a3 a5 b8 b9 d0 w0 _ ?side1 ?side2 A5.out).mono ?_); (case side1 => exact iS71 HI0); (case side2 => exact bI HB (IsS71.ge HI0.out)); rintro e w7 ⟨rfl, hi, hb, hk⟩; refine ⟨_, rfl, ?_⟩; replace HK := aM (KeepBut.trans (kp HK) hk (.inl rfl)); replace HB := aM (hb); replace HI0 := aM (hi); (try clear hb hk hi)))
    go_ret
    exact ⟨eS, iS71 HI0, bI HB (IsS71.ge HI0.out), by repeat (first | (with_reducible first | exact HK.out | apply KeepBut.set_ | apply keep_drewN | apply keep_drew | apply keep_alloc) | exact HK.out)⟩
  ·replace H := bN H
   obtain ⟨⟨d1, a6, a7⟩, A8, H⟩ := H
   replace H := bN H
   obtain ⟨⟨d2, a8, a9⟩, A9, H⟩ := H
   replace H := bN H
   obtain ⟨⟨d3, b0, b1⟩, e4, H⟩ := H
   replace H := bN H
   obtain ⟨⟨d4, d5, d6⟩, e5, H⟩ := H
   by_cases b2 : a1 = 0
   ·rw [if_pos b2] at H
    exact absurd H (by simp)
   ·rw [if_neg b2] at H
    have e0 : (a1 == 0) = false := beq_eq_false_iff_ne.mpr b2
    have e1 : (a1 != 0) = true := bne_iff_ne.mpr b2
    obtain ⟨rfl, rfl, rfl⟩ := sI3 H
    go_enter Try.func28, Try.ntmps28
    go_wp2_with (first | ((with_reducible refine gC 48 ?_); refine cL (some 18) Try.func48 #[.pointer (some ⟨g, 0, none⟩)] ?_; (with_reducible refine (spec_l01Byte.calls g a2 a3 a5 d1 a6 a7 w0 _ ?side1 ?side2 A8.out).mono ?_); (case side1 => exact iS71 HI0); (case side2 => exact bI HB (IsS71.ge HI0.out)); rintro e e6 ⟨rfl, hi, hb, hk⟩; refine ⟨_, rfl, ?_⟩; replace HK := aM (KeepBut.trans (kp HK) hk (.inl rfl)); replace HB := aM (hb); replace HI0 := aM (hi); (try clear hb hk hi)) | ((with_reducible refine gC 48 ?_); refine cL (some 20) Try.func48 #[.pointer (some ⟨g, 0, none⟩)] ?_; (with_reducible refine (spec_l01Byte.calls g a2 a6 a7 d2 a8 a9 w0 _ ?side1 ?side2 A9.out).mono ?_); (case side1 => exact iS71 HI0); (case side2 => exact bI HB (IsS71.ge HI0.out)); rintro e e7 ⟨rfl, hi, hb, hk⟩; refine ⟨_, rfl, ?_⟩; replace HK := aM (KeepBut.trans (kp HK) hk (.inl rfl)); replace HB := aM (hb); replace HI0 := aM (hi); (try clear hb hk hi)) | ((with_reducible refine gC 48 ?_); refine cL (some 22) Try.func48 #[.pointer (some ⟨g, 0, none⟩)] ?_; (with_reducible refine (spec_l01Byte.calls g a2 a8 a9 d3 b0 b1 w0 _ ?side1 ?side2 e4.out).mono ?_); (case side1 => exact iS71 HI0); (case side2 => exact bI HB (IsS71.ge HI0.out)); rintro e e8 ⟨rfl, hi, hb, hk⟩; refine ⟨_, rfl, ?_⟩; replace HK := aM (KeepBut.trans (kp HK) hk (.inl rfl)); replace HB := aM (hb); replace HI0 := aM (hi); (try clear hb hk hi)) | ((with_reducible refine gC 48 ?_); refine cL (some 24) Try.func48 #[.pointer (some ⟨g, 0, none⟩)] ?_; (with_reducible refine (spec_l01Byte.calls g a2 b0 b1 d4 d5 d6 w0 _ ?side1 ?side2 e5.out).mono ?_); (case side1 => exact iS71 HI0); (case side2 => exact bI HB (IsS71.ge HI0.out)); rintro e e9 ⟨rfl, hi, hb, hk⟩; refine ⟨_, rfl, ?_⟩; replace HK := aM (KeepBut.trans (kp HK) hk (.inl rfl)); replace HB := aM (hb); replace HI0 := aM (hi); (try clear hb hk hi)))
    go_ret
    exact ⟨eS, iS71 HI0, bI HB (IsS71.ge HI0.out), by repeat (first | (with_reducible first | exact HK.out | apply KeepBut.set_ | apply keep_drewN | apply keep_drew | apply keep_alloc) | exact HK.out)⟩

/-! ### spec_l01Once: function 12 -/
def spec_l01Once.f (a3 : List Int) (a5 : Int) (a6 : Int) (a1 : Int) : Option (Bool × Int × Int) := (spec_l01Below.f a3 a5 a6 a1).bind fun a2 => (some ((a2.1 == 0), a2.2.1, a2.2.2))
theorem spec_l01Once.calls (g : Nat) (a2 : List Int) (a3 : Int) (a5 : Int) (a1 : Int) (r1 : Bool) (r2 : Int) (r3 : Int) (w0 w : World) (hI : IsS71 w0 w g a2 a3 a5) (hB : Below w0.heap.size w0 w) (h : spec_l01Once.f a2 a3 a5 a1 = some (r1, r2, r3)) :
  Calls Try.prog 12 #[.pointer (some ⟨g, 0, none⟩), .int .i64 a1] w fun e w' => e = .returned (.bool r1) ∧ IsS71 w0 w' g a2 r2 r3 ∧ Below w0.heap.size w0 w' ∧ KeepBut w w' g none := by
 have HI0 := aM hI
 have HK := aM (KeepBut.refl w g none)
 have HL := aM hB.size
 clear hI
 have HW0 := aM hB.size
 have HB := aM hB
 clear hB
 have H := h
 clear h
 unfold spec_l01Once.f at H
 replace H := bN H
 obtain ⟨⟨a6, a7, a8⟩, A3, H⟩ := H
 obtain ⟨rfl, rfl, rfl⟩ := sI3 H
 go_enter Try.func12, Try.ntmps12
 go_wp2_with (first | ((with_reducible refine gC 28 ?_); refine cL (some 7) Try.func28 #[.pointer (some ⟨g, 0, none⟩), .int .i64 a1] ?_; (with_reducible refine (spec_l01Below.calls g a2 a3 a5 a1 a6 a7 a8 w0 _ ?side1 ?side2 A3.out).mono ?_); (case side1 => exact iS71 HI0); (case side2 => exact bI HB (IsS71.ge HI0.out)); rintro e w4 ⟨rfl, hi, hb, hk⟩; refine ⟨_, rfl, ?_⟩; replace HK := aM (KeepBut.trans (kp HK) hk (.inl rfl)); replace HB := aM (hb); replace HI0 := aM (hi); (try clear hb hk hi)))
 go_ret
 exact ⟨eS, iS71 HI0, bI HB (IsS71.ge HI0.out), by repeat (first | (with_reducible first | exact HK.out | apply KeepBut.set_ | apply keep_drewN | apply keep_drew | apply keep_alloc) | exact HK.out)⟩

/-! ### spec_l01Pick: function 30 -/
def spec_l01Pick.f (a3 : List Int) (a5 : Int) (a6 : Int) (l1 : List ByteArray) : Option (ByteArray × Int × Int) := (spec_l01Below.f a3 a5 a6 (l1.length : Int)).bind fun a2 => (if 0 ≤ a2.1 then (if a2.1 < (l1.length : Int) then (some (rdOf ByteArray.empty l1 a2.1, a2.2.1, a2.2.2)) else (none)) else (none))
theorem spec_l01Pick.calls (g : Nat) (a5 : List Int) (a6 : Int) (a7 : Int) (A1 : Option Addr) (c1 : Nat) (l1 : List ByteArray) (r1 : ByteArray) (r2 : Int) (r3 : Int) (w0 w : World) (hI : IsS71 w0 w g a5 a6 a7) (hB : Below w0.heap.size w0 w) (b7 : Kd.C Kd.string w A1 l1.length l1) (b8 : l1.length ≤ c1) (hf1 : ∀ ad, A1 = some ad → 0 < l1.length → ad.block ≠ g) (h : spec_l01Pick.f a5 a6 a7 l1 = some (r1, r2, r3)) :
  Calls Try.prog 30 #[.pointer (some ⟨g, 0, none⟩), .slice A1 l1.length c1] w fun e w' => e = .returned (.string r1) ∧ IsS71 w0 w' g a5 r2 r3 ∧ Below w0.heap.size w0 w' ∧ KeepBut w w' g none := by
 have b9 := aM b7
 have d2 := aM b8
 clear b7 b8
 have HI0 := aM hI
 have HK := aM (KeepBut.refl w g none)
 have HL := aM hB.size
 clear hI
 have HW0 := aM hB.size
 have HB := aM hB
 clear hB
 have H := h
 clear h
 unfold spec_l01Pick.f at H
 replace H := bN H
 obtain ⟨⟨a3, b1, b2⟩, A3, H⟩ := H
 by_cases c4 : 0 ≤ a3
 ·rw [if_pos c4] at H
  have d0 : decide (0 ≤ a3) = true := decide_eq_true c4
  clear c4
  obtain ⟨d1, H⟩ := iT H
  obtain ⟨rfl, rfl, rfl⟩ := sI3 H
  go_enter Try.func30, Try.ntmps30
  go_wp2_with (first | ((with_reducible refine gC 28 ?_); refine cL (some 9) Try.func28 #[.pointer (some ⟨g, 0, none⟩), .int .i64 (l1.length : Int)] ?_; (with_reducible refine (spec_l01Below.calls g a5 a6 a7 (l1.length : Int) a3 b1 b2 w0 _ ?side1 ?side2 A3.out).mono ?_); (case side1 => exact iS71 HI0); (case side2 => exact bI HB (IsS71.ge HI0.out)); rintro e w6 ⟨rfl, hi, hb, hk⟩; refine ⟨_, rfl, ?_⟩; replace HK := aM (KeepBut.trans (kp HK) hk (.inl rfl)); replace HB := aM (hb); replace HI0 := aM (hi); (try clear hb hk hi); have a8 : 0 ≤ (a3 : Int) := dA; have a9 : a3 < (l1.length : Int) := dA; obtain ⟨b0, b6, a2⟩ := Kd.at_string b9.out a3 a8 a9; cases b6; replace a2 := keep_cell HK.out a2 (by first | (rw [add_block]; exact hf1 _ rfl (by omega)) | exact hf1 _ rfl (by omega) | exact hf1 b0 rfl (by omega)); replace a8 := eq_true a8; replace a9 := eq_true a9))
  go_ret
  exact ⟨eS, iS71 HI0, bI HB (IsS71.ge HI0.out), by repeat (first | (with_reducible first | exact HK.out | apply KeepBut.set_ | apply keep_drewN | apply keep_drew | apply keep_alloc) | exact HK.out)⟩
 ·rw [if_neg c4] at H
  exact absurd H (by simp)

/-! ### spec_l01PickInt: function 31 -/
def spec_l01PickInt.f (a3 : List Int) (a5 : Int) (a6 : Int) (l1 : List Int) : Option (Int × Int × Int) := (spec_l01Below.f a3 a5 a6 (l1.length : Int)).bind fun a2 => (if 0 ≤ a2.1 then (if a2.1 < (l1.length : Int) then (some (rd l1 a2.1, a2.2.1, a2.2.2)) else (none)) else (none))
theorem spec_l01PickInt.calls (g : Nat) (a5 : List Int) (a6 : Int) (a7 : Int) (A1 : Option Addr) (c1 : Nat) (l1 : List Int) (r1 : Int) (r2 : Int) (r3 : Int) (w0 w : World) (hI : IsS71 w0 w g a5 a6 a7) (hB : Below w0.heap.size w0 w) (b7 : Kd.C (Kd.int .i64) w A1 l1.length l1) (b8 : l1.length ≤ c1) (hf1 : ∀ ad, A1 = some ad → 0 < l1.length → ad.block ≠ g) (h : spec_l01PickInt.f a5 a6 a7 l1 = some (r1, r2, r3)) :
  Calls Try.prog 31 #[.pointer (some ⟨g, 0, none⟩), .slice A1 l1.length c1] w fun e w' => e = .returned (.int .i64 r1) ∧ IsS71 w0 w' g a5 r2 r3 ∧ Below w0.heap.size w0 w' ∧ KeepBut w w' g none := by
 have b9 := aM b7
 have d2 := aM b8
 clear b7 b8
 have HI0 := aM hI
 have HK := aM (KeepBut.refl w g none)
 have HL := aM hB.size
 clear hI
 have HW0 := aM hB.size
 have HB := aM hB
 clear hB
 have H := h
 clear h
 unfold spec_l01PickInt.f at H
 replace H := bN H
 obtain ⟨⟨a3, b1, b2⟩, A3, H⟩ := H
 by_cases c4 : 0 ≤ a3
 ·rw [if_pos c4] at H
  have d0 : decide (0 ≤ a3) = true := decide_eq_true c4
  clear c4
  obtain ⟨d1, H⟩ := iT H
  obtain ⟨rfl, rfl, rfl⟩ := sI3 H
  go_enter Try.func31, Try.ntmps31
  go_wp2_with (first | ((with_reducible refine gC 28 ?_); refine cL (some 9) Try.func28 #[.pointer (some ⟨g, 0, none⟩), .int .i64 (l1.length : Int)] ?_; (with_reducible refine (spec_l01Below.calls g a5 a6 a7 (l1.length : Int) a3 b1 b2 w0 _ ?side1 ?side2 A3.out).mono ?_); (case side1 => exact iS71 HI0); (case side2 => exact bI HB (IsS71.ge HI0.out)); rintro e w6 ⟨rfl, hi, hb, hk⟩; refine ⟨_, rfl, ?_⟩; replace HK := aM (KeepBut.trans (kp HK) hk (.inl rfl)); replace HB := aM (hb); replace HI0 := aM (hi); (try clear hb hk hi); have a8 : 0 ≤ (a3 : Int) := dA; have a9 : a3 < (l1.length : Int) := dA; obtain ⟨b0, b6, a2⟩ := Kd.at_int b9.out a3 a8 a9; cases b6; replace a2 := keep_cell HK.out a2 (by first | (rw [add_block]; exact hf1 _ rfl (by omega)) | exact hf1 _ rfl (by omega) | exact hf1 b0 rfl (by omega)); replace a8 := eq_true a8; replace a9 := eq_true a9))
  go_ret
  exact ⟨eS, iS71 HI0, bI HB (IsS71.ge HI0.out), by repeat (first | (with_reducible first | exact HK.out | apply KeepBut.set_ | apply keep_drewN | apply keep_drew | apply keep_alloc) | exact HK.out)⟩
 ·rw [if_neg c4] at H
  exact absurd H (by simp)

/-! ### spec_l04Names: function 55 -/
def spec_l04Names.f  : Option (List ByteArray) := some (([(⟨#[109, 111, 118, 101, 116, 111]⟩ : ByteArray), (⟨#[108, 105, 110, 101, 116, 111]⟩ : ByteArray), (⟨#[102, 105, 108, 108]⟩ : ByteArray), (⟨#[103, 114, 97, 121]⟩ : ByteArray), (⟨#[114, 101, 99, 116]⟩ : ByteArray), (⟨#[115, 97, 118, 101]⟩ : ByteArray), (⟨#[114, 101, 115, 116, 111, 114, 101]⟩ : ByteArray), (⟨#[115, 104, 105, 102, 116]⟩ : ByteArray), (⟨#[116, 117, 114, 110]⟩ : ByteArray), (⟨#[115, 99, 97, 108, 101]⟩ : ByteArray), (⟨#[99, 108, 105, 112]⟩ : ByteArray), (⟨#[97, 100, 100]⟩ : ByteArray), (⟨#[115, 117, 98]⟩ : ByteArray), (⟨#[100, 117, 112]⟩ : ByteArray), (⟨#[112, 111, 112]⟩ : ByteArray), (⟨#[101, 120, 99, 104]⟩ : ByteArray), (⟨#[110, 101, 119]⟩ : ByteArray)] : List ByteArray))
theorem spec_l04Names.calls  (r : List ByteArray) (w : World) (h : spec_l04Names.f  = some r) :
  Calls Try.prog 55 #[] w fun e w' => ∃ v0_ : Value, e = .returned (v0_) ∧ Kd.R Kd.string 9 w' w.heap.size (fun _ => True) v0_ r ∧ Below w.heap.size w w' := by
 have HB := aM (Below.refl w.heap.size w)
 have H := h
 clear h
 unfold spec_l04Names.f at H
 obtain ⟨a5, hy_⟩ : ∃ y_ : List ByteArray, y_ = (([(⟨#[109, 111, 118, 101, 116, 111]⟩ : ByteArray), (⟨#[108, 105, 110, 101, 116, 111]⟩ : ByteArray), (⟨#[102, 105, 108, 108]⟩ : ByteArray), (⟨#[103, 114, 97, 121]⟩ : ByteArray), (⟨#[114, 101, 99, 116]⟩ : ByteArray), (⟨#[115, 97, 118, 101]⟩ : ByteArray), (⟨#[114, 101, 115, 116, 111, 114, 101]⟩ : ByteArray), (⟨#[115, 104, 105, 102, 116]⟩ : ByteArray), (⟨#[116, 117, 114, 110]⟩ : ByteArray), (⟨#[115, 99, 97, 108, 101]⟩ : ByteArray), (⟨#[99, 108, 105, 112]⟩ : ByteArray), (⟨#[97, 100, 100]⟩ : ByteArray), (⟨#[115, 117, 98]⟩ : ByteArray), (⟨#[100, 117, 112]⟩ : ByteArray), (⟨#[112, 111, 112]⟩ : ByteArray), (⟨#[101, 120, 99, 104]⟩ : ByteArray), (⟨#[110, 101, 119]⟩ : ByteArray)] : List ByteArray)) := ⟨_, rfl⟩
 replace H : (some a5) = some r := yS
 have Ny131 := aM hy_
 clear hy_
 obtain rfl := Option.some.inj H
 go_enter Try.func55, Try.ntmps55
 go_wp2_with (first | ((with_reducible refine gate_dst (N := 1) rfl ?_); refine Kd.R_lit Kd.string _ 9 ?hg (N := 1) ?hd (xs := ([(⟨#[109, 111, 118, 101, 116, 111]⟩ : ByteArray), (⟨#[108, 105, 110, 101, 116, 111]⟩ : ByteArray), (⟨#[102, 105, 108, 108]⟩ : ByteArray), (⟨#[103, 114, 97, 121]⟩ : ByteArray), (⟨#[114, 101, 99, 116]⟩ : ByteArray), (⟨#[115, 97, 118, 101]⟩ : ByteArray), (⟨#[114, 101, 115, 116, 111, 114, 101]⟩ : ByteArray), (⟨#[115, 104, 105, 102, 116]⟩ : ByteArray), (⟨#[116, 117, 114, 110]⟩ : ByteArray), (⟨#[115, 99, 97, 108, 101]⟩ : ByteArray), (⟨#[99, 108, 105, 112]⟩ : ByteArray), (⟨#[97, 100, 100]⟩ : ByteArray), (⟨#[115, 117, 98]⟩ : ByteArray), (⟨#[100, 117, 112]⟩ : ByteArray), (⟨#[112, 111, 112]⟩ : ByteArray), (⟨#[101, 120, 99, 104]⟩ : ByteArray), (⟨#[110, 101, 119]⟩ : ByteArray)] : List ByteArray)) (inner := [.string (⟨#[109, 111, 118, 101, 116, 111]⟩ : ByteArray), .string (⟨#[108, 105, 110, 101, 116, 111]⟩ : ByteArray), .string (⟨#[102, 105, 108, 108]⟩ : ByteArray), .string (⟨#[103, 114, 97, 121]⟩ : ByteArray), .string (⟨#[114, 101, 99, 116]⟩ : ByteArray), .string (⟨#[115, 97, 118, 101]⟩ : ByteArray), .string (⟨#[114, 101, 115, 116, 111, 114, 101]⟩ : ByteArray), .string (⟨#[115, 104, 105, 102, 116]⟩ : ByteArray), .string (⟨#[116, 117, 114, 110]⟩ : ByteArray), .string (⟨#[115, 99, 97, 108, 101]⟩ : ByteArray), .string (⟨#[99, 108, 105, 112]⟩ : ByteArray), .string (⟨#[97, 100, 100]⟩ : ByteArray), .string (⟨#[115, 117, 98]⟩ : ByteArray), .string (⟨#[100, 117, 112]⟩ : ByteArray), .string (⟨#[112, 111, 112]⟩ : ByteArray), .string (⟨#[101, 120, 99, 104]⟩ : ByteArray), .string (⟨#[110, 101, 119]⟩ : ByteArray)]) (ok := fun _ => True) (okp := fun _ => True) ?hr ?hp (fun _ hk => hk) trivial (Below.refl _ _) (Nat.le_refl _) (by simp) ?_; (case hd => rfl); (case hg => rfl); (case hr => first | (go_simp; done) | (go_simp; rfl)); (case hp => exact (Reps.one (show Kd.M Kd.string _ _ _ (⟨#[109, 111, 118, 101, 116, 111]⟩ : ByteArray) [.string (⟨#[109, 111, 118, 101, 116, 111]⟩ : ByteArray)] from rfl) (Reps.one (show Kd.M Kd.string _ _ _ (⟨#[108, 105, 110, 101, 116, 111]⟩ : ByteArray) [.string (⟨#[108, 105, 110, 101, 116, 111]⟩ : ByteArray)] from rfl) (Reps.one (show Kd.M Kd.string _ _ _ (⟨#[102, 105, 108, 108]⟩ : ByteArray) [.string (⟨#[102, 105, 108, 108]⟩ : ByteArray)] from rfl) (Reps.one (show Kd.M Kd.string _ _ _ (⟨#[103, 114, 97, 121]⟩ : ByteArray) [.string (⟨#[103, 114, 97, 121]⟩ : ByteArray)] from rfl) (Reps.one (show Kd.M Kd.string _ _ _ (⟨#[114, 101, 99, 116]⟩ : ByteArray) [.string (⟨#[114, 101, 99, 116]⟩ : ByteArray)] from rfl) (Reps.one (show Kd.M Kd.string _ _ _ (⟨#[115, 97, 118, 101]⟩ : ByteArray) [.string (⟨#[115, 97, 118, 101]⟩ : ByteArray)] from rfl) (Reps.one (show Kd.M Kd.string _ _ _ (⟨#[114, 101, 115, 116, 111, 114, 101]⟩ : ByteArray) [.string (⟨#[114, 101, 115, 116, 111, 114, 101]⟩ : ByteArray)] from rfl) (Reps.one (show Kd.M Kd.string _ _ _ (⟨#[115, 104, 105, 102, 116]⟩ : ByteArray) [.string (⟨#[115, 104, 105, 102, 116]⟩ : ByteArray)] from rfl) (Reps.one (show Kd.M Kd.string _ _ _ (⟨#[116, 117, 114, 110]⟩ : ByteArray) [.string (⟨#[116, 117, 114, 110]⟩ : ByteArray)] from rfl) (Reps.one (show Kd.M Kd.string _ _ _ (⟨#[115, 99, 97, 108, 101]⟩ : ByteArray) [.string (⟨#[115, 99, 97, 108, 101]⟩ : ByteArray)] from rfl) (Reps.one (show Kd.M Kd.string _ _ _ (⟨#[99, 108, 105, 112]⟩ : ByteArray) [.string (⟨#[99, 108, 105, 112]⟩ : ByteArray)] from rfl) (Reps.one (show Kd.M Kd.string _ _ _ (⟨#[97, 100, 100]⟩ : ByteArray) [.string (⟨#[97, 100, 100]⟩ : ByteArray)] from rfl) (Reps.one (show Kd.M Kd.string _ _ _ (⟨#[115, 117, 98]⟩ : ByteArray) [.string (⟨#[115, 117, 98]⟩ : ByteArray)] from rfl) (Reps.one (show Kd.M Kd.string _ _ _ (⟨#[100, 117, 112]⟩ : ByteArray) [.string (⟨#[100, 117, 112]⟩ : ByteArray)] from rfl) (Reps.one (show Kd.M Kd.string _ _ _ (⟨#[112, 111, 112]⟩ : ByteArray) [.string (⟨#[112, 111, 112]⟩ : ByteArray)] from rfl) (Reps.one (show Kd.M Kd.string _ _ _ (⟨#[101, 120, 99, 104]⟩ : ByteArray) [.string (⟨#[101, 120, 99, 104]⟩ : ByteArray)] from rfl) (Reps.one (show Kd.M Kd.string _ _ _ (⟨#[110, 101, 119]⟩ : ByteArray) [.string (⟨#[110, 101, 119]⟩ : ByteArray)] from rfl) (Reps.none _ _))))))))))))))))))); intro a6 w1 a2 hb hg_ hnew_; clear hg_ hnew_; (first | rw [← Ny131.out] at a2 | (simp only [Int.reduceToNat] at a2; rw [← Ny131.out] at a2)); have a3 := aM (Kd.R_lower a2 (below_size bS)); replace HB := hB hb; clear hb a2))
 go_ret
 exact ⟨_, eS, rS a3, bS⟩

/-! ### spec_l04Token: function 49 -/
def spec_l04Token.f (a3 : List Int) (a9 : Int) (b0 : Int) : Option (ByteArray × Int × Int × Int) := (spec_l01Once.f a3 a9 b0 2).bind fun a2 => (if a2.1 = true then ((spec_l01Below.f a3 a2.2.1 a2.2.2 33).bind fun a5 => ((spec_l01Below.f a3 a5.2.1 a5.2.2 33).bind fun a6 => ((spec_l01PickInt.f a3 a6.2.1 a6.2.2 (([0, 8, a5.1, a6.1, (-4)] : List Int))).bind fun a7 => (some ((⟨#[]⟩ : ByteArray), a7.1, a7.2.1, a7.2.2))))) else ((spec_l04Names.f).bind fun b1 => ((spec_l01Pick.f a3 a2.2.1 a2.2.2 b1).bind fun a8 => (some (a8.1, 0, a8.2.1, a8.2.2)))))
theorem spec_l04Token.calls (g : Nat) (a7 : List Int) (b0 : Int) (b1 : Int) (r1 : ByteArray) (r2 : Int) (r3 : Int) (r4 : Int) (w0 w : World) (hI : IsS71 w0 w g a7 b0 b1) (hB : Below w0.heap.size w0 w) (h : spec_l04Token.f a7 b0 b1 = some (r1, r2, r3, r4)) :
  Calls Try.prog 49 #[.pointer (some ⟨g, 0, none⟩)] w fun e w' => e = .returned (.agg #[.string r1, .int .i64 r2]) ∧ IsS71 w0 w' g a7 r3 r4 ∧ Below w0.heap.size w0 w' ∧ KeepBut w w' g none := by
 have hu46 := Try.underlying46
 have HI0 := aM hI
 have HK := aM (KeepBut.refl w g none)
 have HL := aM hB.size
 clear hI
 have HW0 := aM hB.size
 have HB := aM hB
 clear hB
 have H := h
 clear h
 unfold spec_l04Token.f at H
 replace H := bN H
 obtain ⟨⟨e2, b7, b8⟩, A2, H⟩ := H
 by_cases c3 : e2 = true
 ·subst c3
  rw [if_pos rfl] at H
  replace H := bN H
  obtain ⟨⟨b2, d5, d6⟩, A4, H⟩ := H
  replace H := bN H
  obtain ⟨⟨b6, d1, d2⟩, A5, H⟩ := H
  obtain ⟨d3, hy_⟩ : ∃ y_ : List Int, y_ = (([0, 8, b2, b6, (-4)] : List Int)) := ⟨_, rfl⟩
  replace H : ((spec_l01PickInt.f a7 d1 d2 d3).bind fun b9 => (some ((⟨#[]⟩ : ByteArray), b9.1, b9.2.1, b9.2.2))) = some (r1, r2, r3, r4) := yS
  have Ny144 := aM hy_
  clear hy_
  replace H := bN H
  obtain ⟨⟨e0, e3, e4⟩, A6, H⟩ := H
  obtain ⟨rfl, rfl, rfl, rfl⟩ := sI4 H
  go_enter Try.func49, Try.ntmps49
  go_wp2_with (first | ((with_reducible refine gD 2 ?_); refine bxE #[.string (⟨#[]⟩ : ByteArray), .int .i64 0] 46 ?_; intro a3 hg w7 a6 hb; have GW134 := aM ((by rw [hg]; exact (keep_size (w := w) (g := g) (row := none) (kp HK)) : w.heap.size ≤ a3)); have GE134 := aM ((Nat.le_trans HW0.out (by rw [hg]; exact (keep_size (w := w) (g := g) (row := none) (kp HK)) : w.heap.size ≤ a3) : w0.heap.size ≤ a3)); have a2 := aM ((by rw [hg]; exact Nat.ne_of_lt (IsS71.lt (show IsS71 w0 _ g a7 b0 b1 from iS71 HI0)) : g ≠ a3)); have a5 := aM ((by rw [hg]; exact Nat.ne_of_gt (IsS71.lt (show IsS71 w0 _ g a7 b0 b1 from iS71 HI0)) : a3 ≠ g)); replace HK := aM (KeepBut.trans (kp HK) (KeepBut.of_below hb g none) (.inl rfl)); replace HB := aM (below_step (bI HB (IsS71.ge HI0.out)) hb); replace HI0 := aM (IsS71.below (iS71 HI0) hb); clear hb hg) | ((with_reducible refine gC 12 ?_); refine cL (some 4) Try.func12 #[.pointer (some ⟨g, 0, none⟩), .int .i64 2] ?_; (with_reducible refine (spec_l01Once.calls g a7 b0 b1 2 true b7 b8 w0 _ ?side1 ?side2 A2.out).mono ?_); (case side1 => repeat (first | (with_reducible first | exact HI0.out | apply IsS71.alloc | apply IsS71.drewN | apply IsS71.drew | apply IsS71.set_1 | apply IsS71.set_2 | refine IsS71.far ?_ a2.out _) | exact HI0.out)); (case side2 => repeat (first | (with_reducible first | exact HB.out | apply below_alloc | apply pw_below_drewN | apply below_drew1 | refine below_set ?_ (IsS71.ge HI0.out) | refine below_set ?_ GE134.out) | exact HB.out)); rintro e w8 ⟨rfl, hi, hb, hk⟩; refine ⟨_, rfl, ?_⟩; replace a6 := aM (KeepBut.blk hk (g' := a3) kS a5.out (by simp)); replace HK := aM (KeepBut.trans (by repeat (first | (with_reducible first | exact HK.out | apply KeepBut.set_ | apply keep_drewN | apply keep_drew | apply keep_alloc | refine keep_far ?_ GW134.out _) | exact HK.out)) hk (.inl rfl)); replace HB := aM (hb); replace HI0 := aM (hi); (try clear hb hk hi)) | ((with_reducible refine gC 28 ?_); refine cL (some 7) Try.func28 #[.pointer (some ⟨g, 0, none⟩), .int .i64 33] ?_; (with_reducible refine (spec_l01Below.calls g a7 b7 b8 33 b2 d5 d6 w0 _ ?side1 ?side2 A4.out).mono ?_); (case side1 => repeat (first | (with_reducible first | exact HI0.out | apply IsS71.alloc | apply IsS71.drewN | apply IsS71.drew | apply IsS71.set_1 | apply IsS71.set_2 | refine IsS71.far ?_ a2.out _) | exact HI0.out)); (case side2 => repeat (first | (with_reducible first | exact HB.out | apply below_alloc | apply pw_below_drewN | apply below_drew1 | refine below_set ?_ (IsS71.ge HI0.out) | refine below_set ?_ GE134.out) | exact HB.out)); rintro e w9 ⟨rfl, hi, hb, hk⟩; refine ⟨_, rfl, ?_⟩; replace a6 := aM (KeepBut.blk hk (g' := a3) kS a5.out (by simp)); replace HK := aM (KeepBut.trans (by repeat (first | (with_reducible first | exact HK.out | apply KeepBut.set_ | apply keep_drewN | apply keep_drew | apply keep_alloc | refine keep_far ?_ GW134.out _) | exact HK.out)) hk (.inl rfl)); replace HB := aM (hb); replace HI0 := aM (hi); (try clear hb hk hi)) | ((with_reducible refine gC 28 ?_); refine cL (some 9) Try.func28 #[.pointer (some ⟨g, 0, none⟩), .int .i64 33] ?_; (with_reducible refine (spec_l01Below.calls g a7 d5 d6 33 b6 d1 d2 w0 _ ?side1 ?side2 A5.out).mono ?_); (case side1 => repeat (first | (with_reducible first | exact HI0.out | apply IsS71.alloc | apply IsS71.drewN | apply IsS71.drew | apply IsS71.set_1 | apply IsS71.set_2 | refine IsS71.far ?_ a2.out _) | exact HI0.out)); (case side2 => repeat (first | (with_reducible first | exact HB.out | apply below_alloc | apply pw_below_drewN | apply below_drew1 | refine below_set ?_ (IsS71.ge HI0.out) | refine below_set ?_ GE134.out) | exact HB.out)); rintro e g0 ⟨rfl, hi, hb, hk⟩; refine ⟨_, rfl, ?_⟩; replace a6 := aM (KeepBut.blk hk (g' := a3) kS a5.out (by simp)); replace HK := aM (KeepBut.trans (by repeat (first | (with_reducible first | exact HK.out | apply KeepBut.set_ | apply keep_drewN | apply keep_drew | apply keep_alloc | refine keep_far ?_ GW134.out _) | exact HK.out)) hk (.inl rfl)); replace HB := aM (hb); replace HI0 := aM (hi); (try clear hb hk hi)) | ((with_reducible refine gate_dst (N := 10) rfl ?_); refine Kd.R_lit (Kd.int .i64) _ 3 ?hg (N := 10) ?hd (xs := ([0, 8, b2, b6, (-4)] : List Int)) (inner := [.int .i64 0, .int .i64 8, .int .i64 b2, .int .i64 b6, .int .i64 (-4)]) (ok := fun _ => True) (okp := fun _ => True) ?hr ?hp (fun _ hk => hk) trivial (Below.refl _ _) (Nat.le_refl _) (by simp) ?_; (case hd => rfl); (case hg => rfl); (case hr => first | (go_simp; done) | (go_simp; rfl)); (case hp => exact (Reps.one (show Kd.M (Kd.int .i64) _ _ _ 0 [.int .i64 0] from rfl) (Reps.one (show Kd.M (Kd.int .i64) _ _ _ 8 [.int .i64 8] from rfl) (Reps.one (show Kd.M (Kd.int .i64) _ _ _ b2 [.int .i64 b2] from rfl) (Reps.one (show Kd.M (Kd.int .i64) _ _ _ b6 [.int .i64 b6] from rfl) (Reps.one (show Kd.M (Kd.int .i64) _ _ _ (-4) [.int .i64 (-4)] from rfl) (Reps.none _ _))))))); intro f6 g1 d0 hb hg_ hnew_; clear hg_ hnew_; (first | rw [← Ny144.out] at d0 | (simp only [Int.reduceToNat] at d0; rw [← Ny144.out] at d0)); have a8 := aM (Kd.R_lower d0 (keep_size (w := w) (g := g) (row := none) (by repeat (first | (with_reducible first | exact HK.out | apply KeepBut.set_ | apply keep_drewN | apply keep_drew | apply keep_alloc | refine keep_far ?_ GW134.out _) | exact HK.out)))); replace a6 := kB_ a3 hb; replace HK := aM (KeepBut.trans (by repeat (first | (with_reducible first | exact HK.out | apply KeepBut.set_ | apply keep_drewN | apply keep_drew | apply keep_alloc | refine keep_far ?_ GW134.out _) | exact HK.out)) (KeepBut.of_below hb g none) (.inl rfl)); replace HB := aM (below_step (by repeat (first | (with_reducible first | exact HB.out | apply below_alloc | apply pw_below_drewN | apply below_drew1 | refine below_set ?_ (IsS71.ge HI0.out) | refine below_set ?_ GE134.out) | exact HB.out)) hb); replace HI0 := aM (IsS71.below (by repeat (first | (with_reducible first | exact HI0.out | apply IsS71.alloc | apply IsS71.drewN | apply IsS71.drew | apply IsS71.set_1 | apply IsS71.set_2 | refine IsS71.far ?_ a2.out _) | exact HI0.out)) hb); clear hb d0; obtain ⟨e5, e6, e7⟩ := Kd.R_slice a8.out; subst e7) | ((with_reducible refine gC 31 ?_); refine cL (some 11) Try.func31 #[.pointer (some ⟨g, 0, none⟩), .slice e5 d3.length e6] ?_; (with_reducible refine (spec_l01PickInt.calls g a7 d1 d2 _ _ d3 e0 e3 e4 w0 _ ?side1 ?side2 ?side3 ?side4 ?side5 A6.out).mono ?_); (case side1 => repeat (first | (with_reducible first | exact HI0.out | apply IsS71.alloc | apply IsS71.drewN | apply IsS71.drew | apply IsS71.set_1 | apply IsS71.set_2 | refine IsS71.far ?_ a2.out _) | exact HI0.out)); (case side2 => repeat (first | (with_reducible first | exact HB.out | apply below_alloc | apply pw_below_drewN | apply below_drew1 | refine below_set ?_ (IsS71.ge HI0.out) | refine below_set ?_ GE134.out) | exact HB.out)); (case side3 => exact cS (Kd.R_reads' a8.out).2.2); (case side4 => exact (Kd.R_reads' a8.out).2.1); (case side5 => exact far_slice (IsS71.own_ne HI0.out a8.out (by decide))); rintro e g2 ⟨rfl, hi, hb, hk⟩; refine ⟨_, rfl, ?_⟩; replace a6 := aM (KeepBut.blk hk (g' := a3) kS a5.out (by simp)); replace a8 := aM (Kd.R_mono (Kd.R_keep (IsS71.apart (show IsS71 w0 _ g a7 d1 d2 from by repeat (first | (with_reducible first | exact HI0.out | apply IsS71.alloc | apply IsS71.drewN | apply IsS71.drew | apply IsS71.set_1 | apply IsS71.set_2 | refine IsS71.far ?_ a2.out _) | exact HI0.out)) (rS a8) (by decide)) hk (fun _ h => h.2)) (fun _ h => h.1)); replace HK := aM (KeepBut.trans (by repeat (first | (with_reducible first | exact HK.out | apply KeepBut.set_ | apply keep_drewN | apply keep_drew | apply keep_alloc | refine keep_far ?_ GW134.out _) | exact HK.out)) hk (.inl rfl)); replace HB := aM (hb); replace HI0 := aM (hi); (try clear hb hk hi); have hnb15 := nP a5 a2; have hz16 := cz2 a6))
  refine bodyPost_ret (results_cell_row rfl _ _ a3 46 #[.string (⟨#[]⟩ : ByteArray), .int .i64 e0] (0, 0) _ rfl kS Try.underlying46 rfl (by kernel_rfl)) rfl ?_
  exact ⟨eS, by repeat (first | (with_reducible first | exact HI0.out | apply IsS71.alloc | apply IsS71.drewN | apply IsS71.drew | apply IsS71.set_1 | apply IsS71.set_2 | refine IsS71.far ?_ a2.out _) | exact HI0.out), by repeat (first | (with_reducible first | exact HB.out | apply below_alloc | apply pw_below_drewN | apply below_drew1 | refine below_set ?_ (IsS71.ge HI0.out) | refine below_set ?_ GE134.out) | exact HB.out), by repeat (first | (with_reducible first | exact HK.out | apply KeepBut.set_ | apply keep_drewN | apply keep_drew | apply keep_alloc | refine keep_far ?_ GW134.out _) | exact HK.out)⟩
 ·obtain rfl := Bool.eq_false_iff.mpr c3
  rw [if_neg nF] at H
  replace H := bN H
  obtain ⟨d4, f7, H⟩ := H
  replace H := bN H
  obtain ⟨⟨e1, e8, e9⟩, f8, H⟩ := H
  obtain ⟨rfl, rfl, rfl, rfl⟩ := sI4 H
  go_enter Try.func49, Try.ntmps49
  go_wp2_with (first | ((with_reducible refine gD 2 ?_); refine bxE #[.string (⟨#[]⟩ : ByteArray), .int .i64 0] 46 ?_; intro a3 hg g3 a6 hb; have GW134 := aM ((by rw [hg]; exact (keep_size (w := w) (g := g) (row := none) (kp HK)) : w.heap.size ≤ a3)); have GE134 := aM ((Nat.le_trans HW0.out (by rw [hg]; exact (keep_size (w := w) (g := g) (row := none) (kp HK)) : w.heap.size ≤ a3) : w0.heap.size ≤ a3)); have a2 := aM ((by rw [hg]; exact Nat.ne_of_lt (IsS71.lt (show IsS71 w0 _ g a7 b0 b1 from iS71 HI0)) : g ≠ a3)); have a5 := aM ((by rw [hg]; exact Nat.ne_of_gt (IsS71.lt (show IsS71 w0 _ g a7 b0 b1 from iS71 HI0)) : a3 ≠ g)); replace HK := aM (KeepBut.trans (kp HK) (KeepBut.of_below hb g none) (.inl rfl)); replace HB := aM (below_step (bI HB (IsS71.ge HI0.out)) hb); replace HI0 := aM (IsS71.below (iS71 HI0) hb); clear hb hg) | ((with_reducible refine gC 12 ?_); refine cL (some 4) Try.func12 #[.pointer (some ⟨g, 0, none⟩), .int .i64 2] ?_; (with_reducible refine (spec_l01Once.calls g a7 b0 b1 2 false b7 b8 w0 _ ?side1 ?side2 A2.out).mono ?_); (case side1 => repeat (first | (with_reducible first | exact HI0.out | apply IsS71.alloc | apply IsS71.drewN | apply IsS71.drew | apply IsS71.set_1 | apply IsS71.set_2 | refine IsS71.far ?_ a2.out _) | exact HI0.out)); (case side2 => repeat (first | (with_reducible first | exact HB.out | apply below_alloc | apply pw_below_drewN | apply below_drew1 | refine below_set ?_ (IsS71.ge HI0.out) | refine below_set ?_ GE134.out) | exact HB.out)); rintro e g4 ⟨rfl, hi, hb, hk⟩; refine ⟨_, rfl, ?_⟩; replace a6 := aM (KeepBut.blk hk (g' := a3) kS a5.out (by simp)); replace HK := aM (KeepBut.trans (by repeat (first | (with_reducible first | exact HK.out | apply KeepBut.set_ | apply keep_drewN | apply keep_drew | apply keep_alloc | refine keep_far ?_ GW134.out _) | exact HK.out)) hk (.inl rfl)); replace HB := aM (hb); replace HI0 := aM (hi); (try clear hb hk hi)) | ((with_reducible refine gC 55 ?_); refine cM (some 14) Try.func55 (spec_l04Names.calls  d4 _ f7.out) ?_; rintro e g5 ⟨f9, rfl, f5, hb⟩; refine ⟨_, rfl, ?_⟩; have a9 := aM (Kd.R_lower f5 (keep_size (w := w) (g := g) (row := none) (by repeat (first | (with_reducible first | exact HK.out | apply KeepBut.set_ | apply keep_drewN | apply keep_drew | apply keep_alloc | refine keep_far ?_ GW134.out _) | exact HK.out)))); replace a6 := kB_ a3 hb; replace HK := aM (KeepBut.trans (by repeat (first | (with_reducible first | exact HK.out | apply KeepBut.set_ | apply keep_drewN | apply keep_drew | apply keep_alloc | refine keep_far ?_ GW134.out _) | exact HK.out)) (KeepBut.of_below hb g none) (.inl rfl)); replace HB := aM (below_step (by repeat (first | (with_reducible first | exact HB.out | apply below_alloc | apply pw_below_drewN | apply below_drew1 | refine below_set ?_ (IsS71.ge HI0.out) | refine below_set ?_ GE134.out) | exact HB.out)) hb); replace HI0 := aM (IsS71.below (by repeat (first | (with_reducible first | exact HI0.out | apply IsS71.alloc | apply IsS71.drewN | apply IsS71.drew | apply IsS71.set_1 | apply IsS71.set_2 | refine IsS71.far ?_ a2.out _) | exact HI0.out)) hb); (try clear hb f5); obtain ⟨f0, f3, f4⟩ := Kd.R_slice a9.out; subst f4) | ((with_reducible refine gC 30 ?_); refine cL (some 15) Try.func30 #[.pointer (some ⟨g, 0, none⟩), .slice f0 d4.length f3] ?_; (with_reducible refine (spec_l01Pick.calls g a7 b7 b8 _ _ d4 e1 e8 e9 w0 _ ?side1 ?side2 ?side3 ?side4 ?side5 f8.out).mono ?_); (case side1 => repeat (first | (with_reducible first | exact HI0.out | apply IsS71.alloc | apply IsS71.drewN | apply IsS71.drew | apply IsS71.set_1 | apply IsS71.set_2 | refine IsS71.far ?_ a2.out _) | exact HI0.out)); (case side2 => repeat (first | (with_reducible first | exact HB.out | apply below_alloc | apply pw_below_drewN | apply below_drew1 | refine below_set ?_ (IsS71.ge HI0.out) | refine below_set ?_ GE134.out) | exact HB.out)); (case side3 => exact cS (Kd.R_reads' a9.out).2.2); (case side4 => exact (Kd.R_reads' a9.out).2.1); (case side5 => exact far_slice (IsS71.own_ne HI0.out a9.out (by decide))); rintro e g6 ⟨rfl, hi, hb, hk⟩; refine ⟨_, rfl, ?_⟩; replace a6 := aM (KeepBut.blk hk (g' := a3) kS a5.out (by simp)); replace a9 := aM (Kd.R_mono (Kd.R_keep (IsS71.apart (show IsS71 w0 _ g a7 b7 b8 from by repeat (first | (with_reducible first | exact HI0.out | apply IsS71.alloc | apply IsS71.drewN | apply IsS71.drew | apply IsS71.set_1 | apply IsS71.set_2 | refine IsS71.far ?_ a2.out _) | exact HI0.out)) (rS a9) (by decide)) hk (fun _ h => h.2)) (fun _ h => h.1)); replace HK := aM (KeepBut.trans (by repeat (first | (with_reducible first | exact HK.out | apply KeepBut.set_ | apply keep_drewN | apply keep_drew | apply keep_alloc | refine keep_far ?_ GW134.out _) | exact HK.out)) hk (.inl rfl)); replace HB := aM (hb); replace HI0 := aM (hi); (try clear hb hk hi); have hnb24 := nP a5 a2; have hz25 := cz2 a6))
  refine bodyPost_ret (results_cell_row rfl _ _ a3 46 #[.string e1, .int .i64 0] (0, 0) _ rfl kS Try.underlying46 rfl (by kernel_rfl)) rfl ?_
  exact ⟨eS, by repeat (first | (with_reducible first | exact HI0.out | apply IsS71.alloc | apply IsS71.drewN | apply IsS71.drew | apply IsS71.set_1 | apply IsS71.set_2 | refine IsS71.far ?_ a2.out _) | exact HI0.out), by repeat (first | (with_reducible first | exact HB.out | apply below_alloc | apply pw_below_drewN | apply below_drew1 | refine below_set ?_ (IsS71.ge HI0.out) | refine below_set ?_ GE134.out) | exact HB.out), by repeat (first | (with_reducible first | exact HK.out | apply KeepBut.set_ | apply keep_drewN | apply keep_drew | apply keep_alloc | refine keep_far ?_ GW134.out _) | exact HK.out)⟩

/-! ### spec_l06Blocks: function 29 -/
mutual
def spec_l06Blocks.l0 : Nat → Int → List (S46) → Int → Int → List Int → Int → Int → Option ((List (S46)) × Int × Int)
 | 0, _, _, _, _, _, _, _ => none
 | k + 1, x1, x5, x6, x7, a2, a3, a5 => if x7 < x6 then (if x1 > 0 then ((spec_l01Once.f a2 a3 a5 4).bind fun a8 => (spec_l06Blocks.j1 k x1 x5 x6 x7 a8.1 a2 a8.2.1 a8.2.2)) else (spec_l06Blocks.j1 k x1 x5 x6 x7 false a2 a3 a5)) else (some (x5, a3, a5))
def spec_l06Blocks.j1 : Nat → Int → List (S46) → Int → Int → Bool → List Int → Int → Int → Option ((List (S46)) × Int × Int)
 | 0, _, _, _, _, _, _, _, _ => none
 | k + 1, x1, x5, x6, x7, d0, a2, a3, a5 => if d0 = true then ((spec_l01Below.f a2 a3 a5 4).bind fun a9 => ((some (([(⟨(⟨#[]⟩ : ByteArray), a9.1⟩ : S46), (⟨(⟨#[114, 101, 112, 101, 97, 116]⟩ : ByteArray), 0⟩ : S46)] : List (S46)) : List (S46))).bind fun b1 => (if x5.length + b1.length < 5864062014805 then ((some (x5 ++ b1 : List (S46))).bind fun b2 => ((spec_l06Blocks.f k a2 a9.2.1 a9.2.2 (wrap64 (x1 - 1))).bind fun a6 => (if b2.length + a6.1.length < 5864062014805 then ((some (b2 ++ a6.1 : List (S46))).bind fun b6 => (if b6.length < 5864062014805 then (spec_l06Blocks.l0 k x1 (b6 ++ [(⟨(⟨#[101, 110, 100]⟩ : ByteArray), 0⟩ : S46)]) x6 (wrap64 (x7 + 1)) a2 a6.2.1 a6.2.2) else (none))) else (none)))) else (none)))) else ((spec_l04Token.f a2 a3 a5).bind fun a7 => (if x5.length < 5864062014805 then (spec_l06Blocks.l0 k x1 (x5 ++ [(⟨a7.1, a7.2.1⟩ : S46)]) x6 (wrap64 (x7 + 1)) a2 a7.2.2.1 a7.2.2.2) else (none)))
def spec_l06Blocks.f : Nat → List Int → Int → Int → Int → Option ((List (S46)) × Int × Int)
 | 0, _, _, _, _ => none
 | k + 1, b7, b8, b9, a1 => (spec_l01Below.f b7 b8 b9 5).bind fun b0 => (spec_l06Blocks.l0 k a1 (([] : List (S46))) b0.1 0 b7 b0.2.1 b0.2.2)
end
theorem spec_l06Blocks.calls (k : Nat) : ∀ (g : Nat) (a2 : List Int) (d6 : Int) (e0 : Int) (a1 : Int) (r1 : List (S46)) (r2 : Int) (r3 : Int) (w0 w : World) (hI : IsS71 w0 w g a2 d6 e0) (hB : Below w0.heap.size w0 w) (h : spec_l06Blocks.f k a2 d6 e0 a1 = some (r1, r2, r3)),
  Calls Try.prog 29 #[.pointer (some ⟨g, 0, none⟩), .int .i64 a1] w fun e w' => ∃ v0_ : Value, e = .returned (v0_) ∧ Kd.R k46 46 w' w.heap.size (fun _ => True) v0_ r1 ∧ IsS71 w0 w' g a2 r2 r3 ∧ Below w0.heap.size w0 w' ∧ KeepBut w w' g none := by
 induction k using Nat.strongRecOn with
 | _ k ih =>
 intro g a2 d6 e0 a1 r1 r2 r3 w0 w hI hB h
 cases k with
 | zero => exact absurd h (by simp [spec_l06Blocks.f])
 | succ k =>
 simp only [spec_l06Blocks.f] at h
 have hu46 := Try.underlying46
 have HI0 := aM hI
 have HK := aM (KeepBut.refl w g none)
 have HL := aM hB.size
 clear hI
 have HW0 := aM hB.size
 have HB := aM hB
 clear hB
 have H : ((spec_l01Below.f a2 d6 e0 5).bind fun b7 => (spec_l06Blocks.l0 k a1 (([] : List (S46))) b7.1 0 a2 b7.2.1 b7.2.2)) = some (r1, r2, r3) := h
 clear h
 obtain ⟨g4, hy_⟩ : ∃ y_ : List (S46), y_ = (([] : List (S46))) := ⟨_, rfl⟩
 replace H : ((spec_l01Below.f a2 d6 e0 5).bind fun b7 => (spec_l06Blocks.l0 k a1 g4 b7.1 0 a2 b7.2.1 b7.2.2)) = some (r1, r2, r3) := yS
 have Ny156 := aM hy_
 clear hy_
 replace H := bN H
 obtain ⟨⟨b8, g5, g6⟩, A3, H⟩ := H
 have H' := aM H
 clear H
 go_enter Try.func29, Try.ntmps29
 go_wp2_with (first | ((with_reducible refine gate_dst (N := 9) rfl ?_); refine Kd.R_lit k46 _ 46 ?hg (N := 9) ?hd (xs := ([] : List (S46))) (inner := []) (ok := fun _ => True) (okp := fun _ => True) ?hr ?hp (fun _ hk => hk) trivial (Below.refl _ _) (Nat.le_refl _) (by simp) ?_; (case hd => rfl); (case hg => rfl); (case hr => first | (go_simp; done) | (go_simp; rfl)); (case hp => exact (Reps.none _ _)); intro i5 w4 g7 hb hg_ hnew_; clear hg_ hnew_; (first | rw [← Ny156.out] at g7 | (simp only [Int.reduceToNat] at g7; rw [← Ny156.out] at g7)); have f6 := aM (Kd.R_lower g7 (keep_size (w := w) (g := g) (row := none) (kp HK))); replace HK := aM (KeepBut.trans (kp HK) (KeepBut.of_below hb g none) (.inl rfl)); replace HB := aM (below_step (bI HB (IsS71.ge HI0.out)) hb); replace HI0 := aM (IsS71.below (iS71 HI0) hb); clear hb g7) | ((with_reducible refine gC 28 ?_); refine cL (some 11) Try.func28 #[.pointer (some ⟨g, 0, none⟩), .int .i64 5] ?_; (with_reducible refine (spec_l01Below.calls g a2 d6 e0 5 b8 g5 g6 w0 _ ?side1 ?side2 A3.out).mono ?_); (case side1 => exact iS71 HI0); (case side2 => exact bI HB (IsS71.ge HI0.out)); rintro e w6 ⟨rfl, hi, hb, hk⟩; refine ⟨_, rfl, ?_⟩; replace f6 := aM (Kd.R_mono (Kd.R_keep (IsS71.apart (show IsS71 w0 _ g a2 d6 e0 from iS71 HI0) (rS f6) (by decide)) hk (fun _ h => h.2)) (fun _ h => h.1)); replace HK := aM (KeepBut.trans (kp HK) hk (.inl rfl)); replace HB := aM (hb); replace HI0 := aM (hi); (try clear hb hk hi)))
 go_loopg [5, 7] k (fun kq v5 v7 w' => ∃ (b9 : List (S46)) (b1 : Int) (a9 : Int) (b0 : Int), v7 = .int .i64 b1 ∧ Aside0 (spec_l06Blocks.l0 kq a1 b9 b8 b1 a2 a9 b0 = some (r1, r2, r3)) ∧ Aside0 (kq ≤ k) ∧ Aside0 (Kd.R k46 46 w' w.heap.size (fun _ => True) v5 b9) ∧ Aside0 (IsS71 w0 w' g a2 a9 b0) ∧ Aside0 (KeepBut w w' g none) ∧ Aside0 (Below w0.heap.size w0 w'))
 case atStart => exact ⟨(g4), (0), (g5), (g6), fS, H', ⟨Nat.le_refl _⟩, ⟨rS f6⟩, ⟨iS71 HI0⟩, ⟨kp HK⟩, ⟨bI HB (IsS71.ge HI0.out)⟩⟩
 case round =>
  clear H'
  try clear c2
  try clear p2
  obtain ⟨b9, b1, a9, b0, rfl, HA, g3, a3, HI0, HK, HB⟩ := hrel
  cases gk with
  | zero => exact absurd HA.out (by simp [spec_l06Blocks.l0])
  | succ k1 =>
   have H := HA.out
   clear HA
   simp only [spec_l06Blocks.l0] at H
   by_cases c7 : b1 < b8
   ·rw [if_pos c7] at H
    have g8 : decide (b1 < b8) = true := decide_eq_true c7
    clear c7
    have h7 := aM H
    clear H
    go_upto_region 6 with (fail)
    go_cut [22] (fun i6 wc => ∃ (kq : Nat) (e6 : Bool) (a6 : Int) (a7 : Int), i6 = .bool e6 ∧ Aside0 (spec_l06Blocks.j1 kq a1 b9 b8 b1 e6 a2 a6 a7 = some (r1, r2, r3)) ∧ Aside0 (kq ≤ k1) ∧ Aside0 (Kd.R k46 46 wc w.heap.size (fun _ => True) u5 b9) ∧ Aside0 (IsS71 w0 wc g a2 a6 a7) ∧ Aside0 (KeepBut w wc g none) ∧ Aside0 (Below w0.heap.size w0 wc))
    case first =>
     have H := h7.out
     clear h7
     by_cases c9 : a1 > 0
     ·rw [if_pos c9] at H
      have e8 : decide (0 < a1) = true := decide_eq_true c9
      clear c9
      (first | rw [e8] | (simp only [i64_w, i32_w]; rw [e8]) | skip)
      replace H := bN H
      obtain ⟨⟨g9, h0, h1⟩, i7, H⟩ := H
      have H' := aM H
      clear H
      go_wp2_with (first | (go_at_call 12; (with_reducible refine (spec_l01Once.calls g a2 a9 b0 4 g9 h0 h1 w0 _ ?side1 ?side2 i7.out).mono ?_); (case side1 => exact iS71 HI0); (case side2 => exact bI HB (IsS71.ge HI0.out)); rintro e k0 ⟨rfl, hi, hb, hk⟩; replace a3 := aM (Kd.R_mono (Kd.R_keep (IsS71.apart (show IsS71 w0 _ g a2 a9 b0 from iS71 HI0) (rS a3) (by decide)) hk (fun _ h => h.2)) (fun _ h => h.1)); replace HK := aM (KeepBut.trans (kp HK) hk (.inl rfl)); replace HB := aM (hb); replace HI0 := aM (hi); (try clear hb hk hi)))
      go_meet
      case rel => exact ⟨_, (g9), (h0), (h1), fS, H', ⟨by have := g3.out; first | omega | exact Nat.le_refl _⟩, ⟨rS a3⟩, ⟨iS71 HI0⟩, ⟨kp HK⟩, ⟨bI HB (IsS71.ge HI0.out)⟩⟩
     ·rw [if_neg c9] at H
      have e8 : decide (0 < a1) = false := decide_eq_false c9
      clear c9
      (first | rw [e8] | (simp only [i64_w, i32_w]; rw [e8]) | skip)
      have H' := aM H
      clear H
      go_wp2
      go_meet
      case rel => exact ⟨_, (false), (a9), (b0), fS, H', ⟨by have := g3.out; first | omega | exact Nat.le_refl _⟩, ⟨rS a3⟩, ⟨iS71 HI0⟩, ⟨kp HK⟩, ⟨bI HB (IsS71.ge HI0.out)⟩⟩
    case rest =>
     clear h7
     try clear c2
     try clear p2
     try clear c7
     try clear g8
     try clear c9
     try clear e8
     try clear p2
     obtain ⟨kq, e6, a6, a7, rfl, HA, HJ7, a3, HI0, HK, HB⟩ := hcut
     cases kq with
     | zero => exact absurd HA.out (by simp [spec_l06Blocks.j1])
     | succ kj7 =>
      have H := HA.out
      clear HA
      simp only [spec_l06Blocks.j1] at H
      by_cases i4 : e6 = true
      ·subst i4
       rw [if_pos rfl] at H
       replace H := bN H
       obtain ⟨⟨e1, e2, e3⟩, i8, H⟩ := H
       obtain ⟨d2, hy_⟩ : ∃ y_ : List (S46), y_ = (([(⟨(⟨#[]⟩ : ByteArray), e1⟩ : S46), (⟨(⟨#[114, 101, 112, 101, 97, 116]⟩ : ByteArray), 0⟩ : S46)] : List (S46))) := ⟨_, rfl⟩
       replace H : (if b9.length + d2.length < 5864062014805 then ((some (b9 ++ d2 : List (S46))).bind fun e4 => ((spec_l06Blocks.f kj7 a2 e2 e3 (wrap64 (a1 - 1))).bind fun b2 => (if e4.length + b2.1.length < 5864062014805 then ((some (e4 ++ b2.1 : List (S46))).bind fun d1 => (if d1.length < 5864062014805 then (spec_l06Blocks.l0 kj7 a1 (d1 ++ [(⟨(⟨#[101, 110, 100]⟩ : ByteArray), 0⟩ : S46)]) b8 (wrap64 (b1 + 1)) a2 b2.2.1 b2.2.2) else (none))) else (none)))) else (none)) = some (r1, r2, r3) := yS
       have Ny168 := aM hy_
       clear hy_
       obtain ⟨LMc14, H⟩ := iL H
       obtain ⟨e4, hy_⟩ : ∃ y_ : List (S46), y_ = (b9 ++ d2) := ⟨_, rfl⟩
       replace H : ((spec_l06Blocks.f kj7 a2 e2 e3 (wrap64 (a1 - 1))).bind fun b2 => (if e4.length + b2.1.length < 5864062014805 then ((some (e4 ++ b2.1 : List (S46))).bind fun d1 => (if d1.length < 5864062014805 then (spec_l06Blocks.l0 kj7 a1 (d1 ++ [(⟨(⟨#[101, 110, 100]⟩ : ByteArray), 0⟩ : S46)]) b8 (wrap64 (b1 + 1)) a2 b2.2.1 b2.2.2) else (none))) else (none))) = some (r1, r2, r3) := yS
       have Ny171 := aM hy_
       clear hy_
       replace H := bN H
       obtain ⟨⟨e5, e9, f0⟩, i9, H⟩ := H
       obtain ⟨LMc16, H⟩ := iL H
       obtain ⟨d1, hy_⟩ : ∃ y_ : List (S46), y_ = (e4 ++ e5) := ⟨_, rfl⟩
       replace H : (if d1.length < 5864062014805 then (spec_l06Blocks.l0 kj7 a1 (d1 ++ [(⟨(⟨#[101, 110, 100]⟩ : ByteArray), 0⟩ : S46)]) b8 (wrap64 (b1 + 1)) a2 e9 f0) else (none)) = some (r1, r2, r3) := yS
       have Ny179 := aM hy_
       clear hy_
       obtain ⟨LMc17, H⟩ := iL H
       obtain ⟨h2, hy_⟩ : ∃ y_ : List (S46), y_ = (d1 ++ [(⟨(⟨#[101, 110, 100]⟩ : ByteArray), 0⟩ : S46)]) := ⟨_, rfl⟩
       replace H : (spec_l06Blocks.l0 kj7 a1 h2 b8 (wrap64 (b1 + 1)) a2 e9 f0) = some (r1, r2, r3) := yS
       have Ny182 := aM hy_
       clear hy_
       have H' := aM H
       clear H
       go_wp2_with (first | ((with_reducible refine gC 28 ?_); refine cL (some 25) Try.func28 #[.pointer (some ⟨g, 0, none⟩), .int .i64 4] ?_; (with_reducible refine (spec_l01Below.calls g a2 a6 a7 4 e1 e2 e3 w0 _ ?side1 ?side2 i8.out).mono ?_); (case side1 => exact iS71 HI0); (case side2 => exact bI HB (IsS71.ge HI0.out)); rintro e k2 ⟨rfl, hi, hb, hk⟩; refine ⟨_, rfl, ?_⟩; replace a3 := aM (Kd.R_mono (Kd.R_keep (IsS71.apart (show IsS71 w0 _ g a2 a6 a7 from iS71 HI0) (rS a3) (by decide)) hk (fun _ h => h.2)) (fun _ h => h.1)); replace HK := aM (KeepBut.trans (kp HK) hk (.inl rfl)); replace HB := aM (hb); replace HI0 := aM (hi); (try clear hb hk hi)) | ((with_reducible refine gate_dst (N := 28) rfl ?_); refine Kd.R_lit k46 _ 46 ?hg (N := 28) ?hd (xs := ([(⟨(⟨#[]⟩ : ByteArray), e1⟩ : S46), (⟨(⟨#[114, 101, 112, 101, 97, 116]⟩ : ByteArray), 0⟩ : S46)] : List (S46))) (inner := [.string (⟨#[]⟩ : ByteArray), .int .i64 e1, .string (⟨#[114, 101, 112, 101, 97, 116]⟩ : ByteArray), .int .i64 0]) (ok := fun _ => True) (okp := fun _ => True) ?hr ?hp (fun _ hk => hk) trivial (Below.refl _ _) (Nat.le_refl _) (by simp) ?_; (case hd => rfl); (case hg => rfl); (case hr => first | (go_simp; done) | (go_simp; rfl)); (case hp => exact (Reps.c2 (show Kd.M k46 _ _ _ (⟨(⟨#[]⟩ : ByteArray), e1⟩ : S46) [.string (⟨#[]⟩ : ByteArray), .int .i64 e1] from (k46_mkM _ _ _ (⟨(⟨#[]⟩ : ByteArray), e1⟩ : S46) )) (Reps.c2 (show Kd.M k46 _ _ _ (⟨(⟨#[114, 101, 112, 101, 97, 116]⟩ : ByteArray), 0⟩ : S46) [.string (⟨#[114, 101, 112, 101, 97, 116]⟩ : ByteArray), .int .i64 0] from (k46_mkM _ _ _ (⟨(⟨#[114, 101, 112, 101, 97, 116]⟩ : ByteArray), 0⟩ : S46) )) (Reps.none _ _)))); intro j5 k3 f3 hb hg_ hnew_; clear hg_ hnew_; (first | rw [← Ny168.out] at f3 | (simp only [Int.reduceToNat] at f3; rw [← Ny168.out] at f3)); have a5 := aM (Kd.R_lower (Kd.R_new' f3 (Kd.R_lt (rS a3))) (keep_size (w := w) (g := g) (row := none) (kp HK))); replace a3 := aM (Kd.R_elder' (rS a3) (Kd.R_base f3) hb); replace HK := aM (KeepBut.trans (kp HK) (KeepBut.of_below hb g none) (.inl rfl)); replace HB := aM (below_step (bI HB (IsS71.ge HI0.out)) hb); replace HI0 := aM (IsS71.below (iS71 HI0) hb); clear hb f3; obtain ⟨f7, f8, h8⟩ := Kd.R_slice a5.out; subst h8) | ((with_reducible refine gate_builtin (b := .append) (xs := #[.tmp 23, .tmp 28]) rfl ?_); at_builtin; refine Kd.R_append_rows k46 w.heap.size rfl (.tmp 23) (.tmp 28) 24 46 (.agg #[(.string ⟨#[]⟩), (.int .i64 0)]) 24 rfl Try.underlying24 info46 rfl (by decide) (by omega) u5 b9 d2 _ _ _ (fun k_ => some k_ ≠ (.slice f7 d2.length f8 : Value).ownBlock) (fun _ => False) rfl rfl ?aO ?aR (fun _ _ h => h) (fun _ h => h.elim) ?aF (Below.refl _ _) ?aS ?aL ?_; (case aR => exact cS (Kd.R_reads' a5.out).2.2); (case aF => exact (fun k_ hk => Kd.fresh' (Kd.R_lt (rS a5)) k_ hk)); (case aO => exact (by exact rM a3)); (case aS => exact (keep_size (w := w) (g := g) (row := none) (kp HK))); (case aL => have := LMc14.out; (try dsimp only at this); omega); intro h9 k4 ho hb hg hat; rw [← Ny171.out] at ho; have d0 := aM (ho); replace a5 := aM (Kd.R_after (ok := (fun _ => True)) (rS a5) hg hat); replace HB := aM (below_weaken (bI HB (IsS71.ge HI0.out)) HL.out hb); replace HI0 := aM (IsS71.grown (show IsS71 w0 _ g a2 e2 e3 from iS71 HI0) hg (IsS71.own_ne HI0.out a3.out (by decide))); replace HK := aM (KeepBut.trans (kp HK) (KeepBut.of_grown hg g) (Kd.R_base2 a3.out)); clear a3; clear ho hb hg hat) | ((with_reducible refine gC 29 ?_); refine cL (some 34) Try.func29 #[.pointer (some ⟨g, 0, none⟩), .int .i64 (wrap64 (a1 - 1))] ?_; (with_reducible refine (ih kj7 (by have := g3.out; have := HJ7.out; omega) g a2 e2 e3 (wrap64 (a1 - 1)) e5 e9 f0 w0 _ ?side1 ?side2 i9.out).mono ?_); (case side1 => exact iS71 HI0); (case side2 => exact bI HB (IsS71.ge HI0.out)); rintro e k5 ⟨j6, rfl, h6, hi, hb, hk⟩; refine ⟨_, rfl, ?_⟩; have b6 := aM (Kd.R_lower (Kd.R_new' (Kd.R_new' h6 (Kd.R_lt (rS a5))) (Kd.R_lt (rS d0))) (keep_size (w := w) (g := g) (row := none) (kp HK))); replace a5 := aM (Kd.R_mono (Kd.R_told (Kd.R_oldK (IsS71.apart (show IsS71 w0 _ g a2 e2 e3 from iS71 HI0) (rS a5) (by decide)) hk) (Kd.R_base h6)) (fun _ h_ => h_.1)); replace d0 := aM (Kd.R_mono (Kd.R_told (Kd.R_oldK (IsS71.apart (show IsS71 w0 _ g a2 e2 e3 from iS71 HI0) (rS d0) (by decide)) hk) (Kd.R_base h6)) (fun _ h_ => h_.1)); replace HK := aM (KeepBut.trans (kp HK) hk (.inl rfl)); replace HB := aM (hb); replace HI0 := aM (hi); (try clear hb hk hi h6); obtain ⟨f9, g0, i1⟩ := Kd.R_slice b6.out; subst i1) | ((with_reducible refine gate_builtin (b := .append) (xs := #[.tmp 30, .tmp 34]) rfl ?_); at_builtin; refine Kd.R_append_rows k46 w.heap.size rfl (.tmp 30) (.tmp 34) 24 46 (.agg #[(.string ⟨#[]⟩), (.int .i64 0)]) 24 rfl Try.underlying24 info46 rfl (by decide) (by omega) h9 e4 e5 _ _ _ (fun k_ => some k_ ≠ (.slice f7 d2.length f8 : Value).ownBlock ∧ some k_ ≠ (.slice f9 e5.length g0 : Value).ownBlock) (fun _ => False) rfl rfl ?aO ?aR (fun _ _ h => h) (fun _ h => h.elim) ?aF (Below.refl _ _) ?aS ?aL ?_; (case aR => exact cS (Kd.R_reads' b6.out).2.2); (case aF => exact (fun k_ hk => ⟨Kd.fresh' (Kd.R_lt (rS a5)) k_ hk, Kd.fresh' (Kd.R_lt (rS b6)) k_ hk⟩)); (case aO => exact (rS d0)); (case aS => exact (keep_size (w := w) (g := g) (row := none) (kp HK))); (case aL => have := LMc16.out; (try dsimp only at this); omega); intro i3 k6 ho hb hg hat; rw [← Ny179.out] at ho; have e7 := aM (ho); replace a5 := aM (Kd.R_after (ok := (fun k_ => some k_ ≠ (.slice f9 e5.length g0 : Value).ownBlock)) (by exact rM a5) hg hat); replace b6 := aM (Kd.R_after (ok := (fun k_ => some k_ ≠ (.slice f7 d2.length f8 : Value).ownBlock)) (by exact rM b6) hg hat); replace HB := aM (below_weaken (bI HB (IsS71.ge HI0.out)) HL.out hb); replace HI0 := aM (IsS71.grown (show IsS71 w0 _ g a2 e9 f0 from iS71 HI0) hg (IsS71.own_ne HI0.out d0.out (by decide))); replace HK := aM (KeepBut.trans (kp HK) (KeepBut.of_grown hg g) (Kd.R_base2 d0.out)); clear d0; clear ho hb hg hat) | ((with_reducible refine gate_builtin (b := .append) (xs := #[.tmp 36, .tmp 38]) rfl ?_); at_builtin; refine Kd.R_append k46 w.heap.size rfl (.tmp 36) (.tmp 38) 24 46 (.agg #[(.string ⟨#[]⟩), (.int .i64 0)]) 24 rfl Try.underlying24 info46 rfl (by decide) (by omega) i3 d1 (⟨(⟨#[101, 110, 100]⟩ : ByteArray), 0⟩ : S46) [.string (⟨#[101, 110, 100]⟩ : ByteArray), .int .i64 0] (fun k_ => some k_ ≠ (.slice f7 d2.length f8 : Value).ownBlock ∧ some k_ ≠ (.slice f9 e5.length g0 : Value).ownBlock) (fun _ => False) rfl rfl ?aP (fun _ hk => hk.elim) ?aF ?aO (Below.refl _ _) ?aS ?aL ?_; (case aP => exact k46_mkM _ _ _ (⟨(⟨#[101, 110, 100]⟩ : ByteArray), 0⟩ : S46)); (case aF => exact (fun k_ hk => ⟨Kd.fresh' (Kd.R_lt (rS a5)) k_ hk, Kd.fresh' (Kd.R_lt (rS b6)) k_ hk⟩)); (case aO => exact (rS e7)); (case aS => exact (keep_size (w := w) (g := g) (row := none) (kp HK))); (case aL => have := LMc17.out; (try dsimp only at this); omega); intro j7 k7 ho hb hg hat; rw [← Ny182.out] at ho; have h3 := aM (ho); replace a5 := aM (Kd.R_after (ok := (fun k_ => some k_ ≠ (.slice f9 e5.length g0 : Value).ownBlock)) (rS a5) hg hat); replace b6 := aM (Kd.R_after (ok := (fun k_ => some k_ ≠ (.slice f7 d2.length f8 : Value).ownBlock)) (rS b6) hg hat); replace HB := aM (below_weaken (bI HB (IsS71.ge HI0.out)) HL.out hb); replace HI0 := aM (IsS71.grown (show IsS71 w0 _ g a2 e9 f0 from iS71 HI0) hg (IsS71.own_ne HI0.out e7.out (by decide))); replace HK := aM (KeepBut.trans (kp HK) (KeepBut.of_grown hg g) (Kd.R_base2 e7.out)); clear e7; clear ho hb hg hat))
       go_roundg kj7
       case measure => have := g3.out; have := HJ7.out; omega
       case rel => exact ⟨(h2), (wrap64 (b1 + 1)), (e9), (f0), fS, H', ⟨by have := g3.out; have := HJ7.out; omega⟩, ⟨by exact rT (Kd.R_mono h3.out (fun _ hk => trivial))⟩, ⟨iS71 HI0⟩, ⟨kp HK⟩, ⟨bI HB (IsS71.ge HI0.out)⟩⟩
      ·obtain rfl := Bool.eq_false_iff.mpr i4
       rw [if_neg nF] at H
       replace H := bN H
       obtain ⟨⟨d4, d5, f4, f5⟩, j8, H⟩ := H
       obtain ⟨LMc28, H⟩ := iL H
       obtain ⟨h4, hy_⟩ : ∃ y_ : List (S46), y_ = (b9 ++ [(⟨d4, d5⟩ : S46)]) := ⟨_, rfl⟩
       replace H : (spec_l06Blocks.l0 kj7 a1 h4 b8 (wrap64 (b1 + 1)) a2 f4 f5) = some (r1, r2, r3) := yS
       have Ny190 := aM hy_
       clear hy_
       have H' := aM H
       clear H
       go_wp2_with (first | ((with_reducible refine gC 49 ?_); refine cL (some 41) Try.func49 #[.pointer (some ⟨g, 0, none⟩)] ?_; (with_reducible refine (spec_l04Token.calls g a2 a6 a7 d4 d5 f4 f5 w0 _ ?side1 ?side2 j8.out).mono ?_); (case side1 => exact iS71 HI0); (case side2 => exact bI HB (IsS71.ge HI0.out)); rintro e k9 ⟨rfl, hi, hb, hk⟩; refine ⟨_, rfl, ?_⟩; replace a3 := aM (Kd.R_mono (Kd.R_keep (IsS71.apart (show IsS71 w0 _ g a2 a6 a7 from iS71 HI0) (rS a3) (by decide)) hk (fun _ h => h.2)) (fun _ h => h.1)); replace HK := aM (KeepBut.trans (kp HK) hk (.inl rfl)); replace HB := aM (hb); replace HI0 := aM (hi); (try clear hb hk hi)) | ((with_reducible refine gD 8 ?_); refine bxE #[.string (⟨#[]⟩ : ByteArray), .int .i64 0] 46 ?_; intro a8 hg l3 g2 hb; have GW189 := aM ((by rw [hg]; exact (keep_size (w := w) (g := g) (row := none) (kp HK)) : w.heap.size ≤ a8)); have GE189 := aM ((Nat.le_trans HW0.out (by rw [hg]; exact (keep_size (w := w) (g := g) (row := none) (kp HK)) : w.heap.size ≤ a8) : w0.heap.size ≤ a8)); have d3 := aM ((by rw [hg]; exact Nat.ne_of_lt (IsS71.lt (show IsS71 w0 _ g a2 f4 f5 from iS71 HI0)) : g ≠ a8)); have g1 := aM ((by rw [hg]; exact Nat.ne_of_gt (IsS71.lt (show IsS71 w0 _ g a2 f4 f5 from iS71 HI0)) : a8 ≠ g)); replace a3 := aM (Kd.R_below (Kd.R_elderB (rS a3) a8 (Nat.le_of_eq hg.symm)) hb); replace HK := aM (KeepBut.trans (kp HK) (KeepBut.of_below hb g none) (.inl rfl)); replace HB := aM (below_step (bI HB (IsS71.ge HI0.out)) hb); replace HI0 := aM (IsS71.below (iS71 HI0) hb); clear hb hg; have hnb31 := nP g1 d3; have hz32 := cz2 g2) | ((with_reducible refine gate_builtin (b := .append) (xs := #[.tmp 42, .tmp 44]) rfl ?_); at_builtin; refine Kd.R_append k46 w.heap.size rfl (.tmp 42) (.tmp 44) 24 46 (.agg #[(.string ⟨#[]⟩), (.int .i64 0)]) 24 rfl Try.underlying24 info46 rfl (by decide) (by omega) u5 b9 (⟨d4, d5⟩ : S46) [.string d4, .int .i64 d5] (fun k_ => k_ ≠ a8) (fun _ => False) rfl (by first | (go_simp; done) | (go_simp; rfl)) ?aP (fun _ hk => hk.elim) ?aF ?aO (Below.refl _ _) ?aS ?aL ?_; (case aP => exact k46_mkM _ _ _ (⟨d4, d5⟩ : S46)); (case aF => exact (fun k_ hk => Kd.freshB (g := a8) (o := .cells #[.string d4, .int .i64 d5] 46 (0, 0)) kS k_ hk)); (case aO => exact (by exact rT (Kd.R_mono (Kd.R_far (p := ⟨a8, 1, none⟩) (Kd.R_far (p := ⟨a8, 0, none⟩) (Kd.R_mono a3.out (fun k_ hk => (⟨hk, hk.2⟩ : _ ∧ k_ ≠ a8))) (fun _ hk => hk.2) (.string d4)) (fun _ hk => hk.2) (.int .i64 d5)) (fun _ hk => hk.1.2)))); (case aS => exact (keep_size (w := w) (g := g) (row := none) (by repeat (first | (with_reducible first | exact HK.out | apply KeepBut.set_ | apply keep_drewN | apply keep_drew | apply keep_alloc | refine keep_far ?_ GW189.out _) | exact HK.out)))); (case aL => have := LMc28.out; (try dsimp only at this); omega); intro j9 l4 ho hb hg hat; rw [← Ny190.out] at ho; have h5 := aM (ho); replace g2 := aM (blk_grown (g := a8) (o := .cells #[.string d4, .int .i64 d5] 46 (0, 0)) kS hg (Kd.R_away a3.out (fun _ hk => hk.2))); replace HB := aM (below_weaken (by repeat (first | (with_reducible first | exact HB.out | apply below_alloc | apply pw_below_drewN | apply below_drew1 | refine below_set ?_ (IsS71.ge HI0.out) | refine below_set ?_ GE189.out) | exact HB.out)) HL.out hb); replace HI0 := aM (IsS71.grown (show IsS71 w0 _ g a2 f4 f5 from by repeat (first | (with_reducible first | exact HI0.out | apply IsS71.alloc | apply IsS71.drewN | apply IsS71.drew | apply IsS71.set_1 | apply IsS71.set_2 | refine IsS71.far ?_ d3.out _) | exact HI0.out)) hg (IsS71.own_ne HI0.out a3.out (by decide))); replace HK := aM (KeepBut.trans (by repeat (first | (with_reducible first | exact HK.out | apply KeepBut.set_ | apply keep_drewN | apply keep_drew | apply keep_alloc | refine keep_far ?_ GW189.out _) | exact HK.out)) (KeepBut.of_grown hg g) (Kd.R_base2 a3.out)); clear a3; clear ho hb hg hat))
       go_roundg kj7
       case measure => have := g3.out; have := HJ7.out; omega
       case rel => exact ⟨(h4), (wrap64 (b1 + 1)), (f4), (f5), fS, H', ⟨by have := g3.out; have := HJ7.out; omega⟩, ⟨by exact rT (Kd.R_mono h5.out (fun _ hk => trivial))⟩, ⟨by repeat (first | (with_reducible first | exact HI0.out | apply IsS71.alloc | apply IsS71.drewN | apply IsS71.drew | apply IsS71.set_1 | apply IsS71.set_2 | refine IsS71.far ?_ d3.out _) | exact HI0.out)⟩, ⟨by repeat (first | (with_reducible first | exact HK.out | apply KeepBut.set_ | apply keep_drewN | apply keep_drew | apply keep_alloc | refine keep_far ?_ GW189.out _) | exact HK.out)⟩, ⟨by repeat (first | (with_reducible first | exact HB.out | apply below_alloc | apply pw_below_drewN | apply below_drew1 | refine below_set ?_ (IsS71.ge HI0.out) | refine below_set ?_ GE189.out) | exact HB.out)⟩⟩
   ·rw [if_neg c7] at H
    have g8 : decide (b1 < b8) = false := decide_eq_false c7
    clear c7
    obtain ⟨rfl, rfl, rfl⟩ := sI3 H
    go_wp2
    go_ret
    exact ⟨_, eS, rS a3, iS71 HI0, bI HB (IsS71.ge HI0.out), by repeat (first | (with_reducible first | exact HK.out | apply KeepBut.set_ | apply keep_drewN | apply keep_drew | apply keep_alloc) | exact HK.out)⟩

end Go.Proofs.Ytpickbenfkcpmaa.QFnRuns7
