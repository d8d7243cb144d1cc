-- Made out of the translation by a program of this session (a changed copy of the print). Not trusted: Lean checks it.
import Derived.Test.YtjodcfjaedhpeaaQFnPagesx0
import Derived.Test.YtjodcfjaedhpeaaQFnPagesx10
namespace Go.Proofs.Ytjodcfjaedhpeaa.QFnPages
open Go.RowKit Go.Proofs.YtjodcfjaedhpeaaW.PrintWords Go.Proofs.YtjodcfjaedhpeaaW.PrintLast Go.Proofs.YtjodcfjaedhpeaaW.PrintMore
attribute [local go_sem] max2_int min2_int max_two min_two max_three min_three max_four min_four   -- for this text's walks alone
set_option linter.unusedVariables false
set_option linter.unusedSimpArgs false
set_option maxHeartbeats 8000000
set_option maxRecDepth 100000

/-- A state of type 74 at block g of W; what its slices lead to came in by w0. -/
def IsS74 (w0 W : World) (g : Nat) (f0 : List Int) (f1 : Int) (f2 : Int) : Prop := ∃ A0 c0, W.heap[g]? = some (.cells #[.slice A0 f0.length c0, .int .i64 f1, .int .i64 f2] 74 (0, 0)) ∧ w0.heap.size ≤ g ∧ Kd.C (Kd.int .u8) w0 A0 f0.length f0
theorem IsS74.grown {w0 W : World} {g : Nat} {f0 : List Int} {f1 : Int} {f2 : Int} {W1 : World} {row : Option Nat} (h : IsS74 w0 W g f0 f1 f2) (hw : W.grownBy W1 row) (hne : some g ≠ row) : IsS74 w0 W1 g f0 f1 f2 := by
  obtain ⟨A0, c0, hb, hg, hr0⟩ := h
  exact ⟨A0, c0, blk_grown hb hw hne, hg, hr0⟩
theorem IsS74.own_neN {w0 W : World} {g : Nat} {f0 : List Int} {f1 : Int} {f2 : Int} {α : Type} {d : Kd α} {e : Nat} {base : Nat} {ok : Nat → Prop} {v : Value} {xs : List α} (h : IsS74 w0 W g f0 f1 f2) (ho : Kd.N d e W base ok v xs) (ht : e ≠ 74) : some g ≠ v.ownBlock := by
  obtain ⟨A0, c0, hb, hg, hr0⟩ := h
  exact Kd.N_ne ho hb ht
theorem IsS74.fresh {w0 W : World} {g : Nat} {f0 : List Int} {f1 : Int} {f2 : Int} (h : IsS74 w0 W g f0 f1 f2) : ∀ k, W.heap.size ≤ k → k ≠ g := by
  obtain ⟨A0, c0, hb, hg, hr0⟩ := h
  exact Kd.freshB hb
theorem IsS74.kept {w0 W : World} {g : Nat} {f0 : List Int} {f1 : Int} {f2 : Int} {W1 : World} {S : Nat → Prop} (h : IsS74 w0 W g f0 f1 f2) (hk : Kept W W1 S) (hne : ¬ S g) : IsS74 w0 W1 g f0 f1 f2 := by
  obtain ⟨A0, c0, hb, hg, hr0⟩ := h
  exact ⟨A0, c0, blk_kept hb hk hne, hg, hr0⟩
theorem IsS74.below {w0 W : World} {g : Nat} {f0 : List Int} {f1 : Int} {f2 : Int} {W1 : World} (h : IsS74 w0 W g f0 f1 f2) (hw : Below W.heap.size W W1) : IsS74 w0 W1 g f0 f1 f2 := h.grown (grown_of_below hw none) (by simp)
theorem IsS74.alloc {w0 W : World} {g : Nat} {f0 : List Int} {f1 : Int} {f2 : Int} (h : IsS74 w0 W g f0 f1 f2) (o : Obj) : IsS74 w0 (W.alloc o) g f0 f1 f2 := h.below (below_alloc (Below.refl _ _) o)
theorem IsS74.drewN {w0 W : World} {g : Nat} {f0 : List Int} {f1 : Int} {f2 : Int} (h : IsS74 w0 W g f0 f1 f2) (m : Nat) : IsS74 w0 (W.drewN m) g f0 f1 f2 := h
theorem IsS74.drew {w0 W : World} {g : Nat} {f0 : List Int} {f1 : Int} {f2 : Int} (h : IsS74 w0 W g f0 f1 f2) : IsS74 w0 W.drew g f0 f1 f2 := h
theorem IsS74.at_ {w0 W : World} {g : Nat} {f0 : List Int} {f1 : Int} {f2 : Int} {w' : World} {m : Nat} (hq : W.drewN m = w') (h : IsS74 w0 W g f0 f1 f2) : IsS74 w0 w' g f0 f1 f2 := by subst hq; exact IsS74.drewN h m
theorem IsS74.apart {w0 W : World} {g : Nat} {f0 : List Int} {f1 : Int} {f2 : Int} {α : Type} {d : Kd α} {e : Nat} {base : Nat} {ok : Nat → Prop} {v : Value} {xs : List α} (h : IsS74 w0 W g f0 f1 f2) (ho : d.R e W base ok v xs) (ht : ∀ q, q ∈ e :: d.E → q ≠ 74) : d.R e W base (fun k => ok k ∧ k ≠ g) v xs := by
  obtain ⟨A0, c0, hb, hg, hr0⟩ := h
  exact Kd.R_types ho hb ht
theorem IsS74.own_ne {w0 W : World} {g : Nat} {f0 : List Int} {f1 : Int} {f2 : Int} {α : Type} {d : Kd α} {e : Nat} {base : Nat} {ok : Nat → Prop} {v : Value} {xs : List α} (h : IsS74 w0 W g f0 f1 f2) (ho : d.R e W base ok v xs) (ht : e ≠ 74) : some g ≠ v.ownBlock := by
  obtain ⟨A0, c0, hb, hg, hr0⟩ := h
  exact Kd.R_ne ho hb ht
theorem IsS74.apartQ {w0 W : World} {g : Nat} {f0 : List Int} {f1 : Int} {f2 : Int} {α : Type} {d : Kd α} {e : Nat} {base : Nat} {ok : Nat → Prop} {v : Value} {xs : List α} (h : IsS74 w0 W g f0 f1 f2) (ho : d.Q e W base ok v xs) (ht : ∀ q, q ∈ e :: d.E → q ≠ 74) : d.Q e W base (fun k => ok k ∧ k ≠ g) v xs := by
  obtain ⟨A0, c0, hb, hg, hr0⟩ := h
  exact Kd.Q_types ho hb ht
theorem IsS74.own_neQ {w0 W : World} {g : Nat} {f0 : List Int} {f1 : Int} {f2 : Int} {α : Type} {d : Kd α} {e : Nat} {base : Nat} {ok : Nat → Prop} {v : Value} {xs : List α} (h : IsS74 w0 W g f0 f1 f2) (ho : d.Q e W base ok v xs) (ht : e ≠ 74) : some g ≠ v.ownBlock := by
  obtain ⟨A0, c0, hb, hg, hr0⟩ := h
  exact Kd.Q_ne ho hb ht
theorem IsS74.apartS {w0 W : World} {g : Nat} {f0 : List Int} {f1 : Int} {f2 : Int} {α : Type} {d : Kd α} {e : Nat} {base : Nat} {ok : Nat → Prop} {v : Value} {xs : List α} (h : IsS74 w0 W g f0 f1 f2) (ho : d.S e W base ok v xs) (ht : ∀ q, q ∈ e :: d.E → q ≠ 74) : d.S e W base (fun k => ok k ∧ k ≠ g) v xs := by
  obtain ⟨A0, c0, hb, hg, hr0⟩ := h
  exact Kd.S_types ho hb ht
theorem IsS74.own_neS {w0 W : World} {g : Nat} {f0 : List Int} {f1 : Int} {f2 : Int} {α : Type} {d : Kd α} {e : Nat} {base : Nat} {ok : Nat → Prop} {v : Value} {xs : List α} (h : IsS74 w0 W g f0 f1 f2) (ho : d.S e W base ok v xs) (ht : e ≠ 74) : some g ≠ v.ownBlock := by
  obtain ⟨A0, c0, hb, hg, hr0⟩ := h
  exact Kd.S_ne ho hb ht
theorem IsS74.lt {w0 W : World} {g : Nat} {f0 : List Int} {f1 : Int} {f2 : Int} (h : IsS74 w0 W g f0 f1 f2) : g < W.heap.size := by
  obtain ⟨A0, c0, hb, hg, hr0⟩ := h
  exact blk_lt hb
theorem IsS74.ge {w0 W : World} {g : Nat} {f0 : List Int} {f1 : Int} {f2 : Int} (h : IsS74 w0 W g f0 f1 f2) : w0.heap.size ≤ g := by
  obtain ⟨A0, c0, hb, hg, hr0⟩ := h
  exact hg
theorem IsS74.ne_blk {w0 W : World} {g : Nat} {f0 : List Int} {f1 : Int} {f2 : Int} {a : Nat} {cs : Array Value} {t : TypeId} {fr : Nat × Nat} (h : IsS74 w0 W g f0 f1 f2) (a2 : W.heap[a]? = some (.cells cs t fr)) (ht : t ≠ 74) : g ≠ a := by
  obtain ⟨A0, c0, hb, hg, hr0⟩ := h
  rintro rfl
  rw [hb] at a2
  injection a2 with a2
  injection a2 with _ ht2
  exact ht ht2.symm
theorem IsS74.far {w0 W : World} {g : Nat} {f0 : List Int} {f1 : Int} {f2 : Int} {p : Addr} (h : IsS74 w0 W g f0 f1 f2) (hne : g ≠ p.block) (u : Value) : IsS74 w0 (W.setCell p u) g f0 f1 f2 := by
  obtain ⟨A0, c0, hb, hg, hr0⟩ := h
  exact ⟨A0, c0, blk_far hb hne u, hg, hr0⟩
theorem cellS74_0 {W : World} {g : Nat} {A0 : Option Addr} {c0 : Nat} {f0 : List Int} {f1 : Int} {f2 : Int} (h : W.heap[g]? = some (.cells #[.slice A0 f0.length c0, .int .i64 f1, .int .i64 f2] 74 (0, 0))) : W.cell? ⟨g, 0, none⟩ = some (.slice A0 f0.length c0) := (blk_cell h 0).trans rfl
theorem cellS74_1 {W : World} {g : Nat} {A0 : Option Addr} {c0 : Nat} {f0 : List Int} {f1 : Int} {f2 : Int} (h : W.heap[g]? = some (.cells #[.slice A0 f0.length c0, .int .i64 f1, .int .i64 f2] 74 (0, 0))) : W.cell? ⟨g, 1, none⟩ = some (.int .i64 f1) := (blk_cell h 1).trans rfl
theorem IsS74.set_1 {w0 W : World} {g : Nat} {f0 : List Int} {f1 : Int} {f2 : Int} (h : IsS74 w0 W g f0 f1 f2) (x : Int) : IsS74 w0 (W.setCell ⟨g, 1, none⟩ (.int .i64 x)) g f0 x f2 := by
  obtain ⟨A0, c0, hb, hg, hr0⟩ := h
  exact ⟨A0, c0, by simpa using blk_set hb 1 (.int .i64 x), hg, hr0⟩
theorem cellS74_2 {W : World} {g : Nat} {A0 : Option Addr} {c0 : Nat} {f0 : List Int} {f1 : Int} {f2 : Int} (h : W.heap[g]? = some (.cells #[.slice A0 f0.length c0, .int .i64 f1, .int .i64 f2] 74 (0, 0))) : W.cell? ⟨g, 2, none⟩ = some (.int .i64 f2) := (blk_cell h 2).trans rfl
theorem IsS74.set_2 {w0 W : World} {g : Nat} {f0 : List Int} {f1 : Int} {f2 : Int} (h : IsS74 w0 W g f0 f1 f2) (x : Int) : IsS74 w0 (W.setCell ⟨g, 2, none⟩ (.int .i64 x)) g f0 f1 x := by
  obtain ⟨A0, c0, hb, hg, hr0⟩ := h
  exact ⟨A0, c0, by simpa using blk_set hb 2 (.int .i64 x), hg, hr0⟩
theorem IsS74.new (w0 W : World) (A0 : Option Addr) (c0 : Nat) (f0 : List Int) (f1 : Int) (f2 : Int) (hB : Below w0.heap.size w0 W) (hr0 : Kd.C (Kd.int .u8) w0 A0 f0.length f0) : IsS74 w0 (W.alloc (.cells #[.slice A0 f0.length c0, .int .i64 f1, .int .i64 f2] 74)) W.heap.size f0 f1 f2 := ⟨A0, c0, by simpa using heap_alloc_new W _, hB.size, hr0⟩

theorem iS74 {w0 W W2 : World} {g : Nat} {f0 : List Int} {f1 : Int} {f2 : Int} {y0 : List Int} {y1 : Int} {y2 : Int} (h : Aside0 (IsS74 w0 W g f0 f1 f2)) (p : IsS74 w0 W g f0 f1 f2 → IsS74 w0 W2 g y0 y1 y2 := by intro h_; repeat (first | (with_reducible first | exact h_ | apply IsS74.alloc | apply IsS74.drewN | apply IsS74.drew | apply IsS74.set_1 | apply IsS74.set_2) | exact h_)) : IsS74 w0 W2 g y0 y1 y2 := p h.out
/-! ### spec_l01Byte: function 64 -/
def spec_l01Byte.f (a5 : List Int) (a3 : Int) (a2 : Int) : Option (Int × Int × Int) := if a3 < (a5.length : Int) then (if 0 ≤ a3 then (some (Go.bits .and .i64 (wrap64 ((Go.bits .and .i64 (Go.bits .xor .i64 ((wrap64 ((wrap64 (a2 * 6364136223846793005)) + 1442695040888963407)) / 8589934592) ((wrap64 ((wrap64 (a2 * 6364136223846793005)) + 1442695040888963407)) / 35184372088832)) 255) + (wrap64 (rd a5 a3)))) 255, wrap64 (a3 + 1), wrap64 ((wrap64 (a2 * 6364136223846793005)) + 1442695040888963407))) else (none)) else (some (Go.bits .and .i64 (Go.bits .xor .i64 ((wrap64 ((wrap64 (a2 * 6364136223846793005)) + 1442695040888963407)) / 8589934592) ((wrap64 ((wrap64 (a2 * 6364136223846793005)) + 1442695040888963407)) / 35184372088832)) 255, a3, wrap64 ((wrap64 (a2 * 6364136223846793005)) + 1442695040888963407)))
theorem spec_l01Byte.lf0 {p : Prop} (h : p := by
 go_enter Try.func64, Try.ntmps64
 go_wp2
 repeat (go_quiet (fail); try go_wp2)
 go_ret
 exact ⟨eS, iS74 HI0, bI HB (IsS74.ge HI0.out), by repeat (first | (with_reducible first | exact HK.out | apply KeepBut.set_ | apply keep_drewN | apply keep_drew | apply keep_alloc) | exact HK.out)⟩) : p := h
theorem spec_l01Byte.calls (g : Nat) (a5 : List Int) (a3 : Int) (a6 : Int) (r1 : Int) (r2 : Int) (r3 : Int) (w0 w : World) (hI : IsS74 w0 w g a5 a3 a6) (hB : Below w0.heap.size w0 w) (h : spec_l01Byte.f a5 a3 a6 = some (r1, r2, r3)) :
  Calls Try.prog 64 #[.pointer (some ⟨g, 0, none⟩)] w fun e w' => e = .returned (.int .i64 r1) ∧ IsS74 w0 w' g a5 r2 r3 ∧ Below w0.heap.size w0 w' ∧ KeepBut w w' g none := by
 have HI0 := aM hI
 have HK := aM (KeepBut.refl w g none)
 have HL := aM hB.size
 clear hI
 have HW0 := aM hB.size
 have HB := aM hB
 clear hB
 have H := h
 clear h
 unfold spec_l01Byte.f at H
 rcases iD H with ⟨b0, H⟩ | ⟨b0, H⟩
 ·obtain ⟨d5, H⟩ := iT H
  obtain ⟨rfl, rfl, rfl⟩ := sI3 H
  obtain ⟨ASz4_0, cSz4_0, HGz4, hgz4, HSz4_0⟩ := HI0.out
  have b1 := cellS74_0 HGz4
  have b2 := cellS74_1 HGz4
  have b6 := cellS74_2 HGz4
  have b7 := blk_frozen HGz4 1
  have b8 := blk_frozen HGz4 2
  clear HGz4 hgz4
  have a7 : 0 ≤ (a3 : Int) := dA
  have a8 : a3 < (a5.length : Int) := dA
  obtain ⟨a9, b9, a2⟩ := Kd.at_int HSz4_0 a3 a7 a8
  cases b9
  have hn556_0 : a9.block ≠ g := Nat.ne_of_lt (Nat.lt_of_lt_of_le (by have := World.block_lt_of_cell? _ _ a2; first | rwa [add_block] at this | exact this) (IsS74.ge HI0.out))
  replace a2 := pw_cell_below HB.out a2
  replace a2 := (cell_far (p := ⟨g, 2, none⟩) (by first | (rw [add_block]; exact hn556_0) | (show (Addr.add _ _).block ≠ _; rw [add_block]; exact hn556_0) | exact hn556_0) (.int .i64 (wrap64 ((wrap64 (a6 * 6364136223846793005)) + 1442695040888963407)))).trans a2
  (try have hy556_0 := fun (n_ : Nat) => (show (((w.drewN n_).setCell ⟨g, 2, none⟩ (.int .i64 (wrap64 ((wrap64 (a6 * 6364136223846793005)) + 1442695040888963407))))).cell? _ = some _ from a2))
  clear hn556_0
  replace a7 := eq_true a7
  replace a8 := eq_true a8
  exact spec_l01Byte.lf0
 ·obtain ⟨rfl, rfl, rfl⟩ := sI3 H
  obtain ⟨ASz5_0, cSz5_0, HGz5, hgz5, HSz5_0⟩ := HI0.out
  have d0 := cellS74_0 HGz5
  have d1 := cellS74_1 HGz5
  have d2 := cellS74_2 HGz5
  have d3 := blk_frozen HGz5 1
  have d4 := blk_frozen HGz5 2
  clear HGz5 hgz5
  exact spec_l01Byte.lf0

/-! ### spec_l01Below: function 44 -/
def spec_l01Below.f (a2 : List Int) (a9 : Int) (b0 : Int) (a1 : Int) : Option (Int × Int × Int) := if a1 ≤ 0 then (some (0, a9, b0)) else (if a1 ≤ 256 then ((spec_l01Byte.f a2 a9 b0).bind fun a3 => (if a1 = 0 then (none) else (some (Int.tmod a3.1 a1, a3.2.1, a3.2.2)))) else ((spec_l01Byte.f a2 a9 b0).bind fun a5 => ((spec_l01Byte.f a2 a5.2.1 a5.2.2).bind fun a6 => ((spec_l01Byte.f a2 a6.2.1 a6.2.2).bind fun a7 => ((spec_l01Byte.f a2 a7.2.1 a7.2.2).bind fun a8 => (if a1 = 0 then (none) else (some (Int.tmod (wrap64 ((wrap64 ((wrap64 ((wrap64 (a5.1 * 16777216)) + (wrap64 (a6.1 * 65536)))) + (wrap64 (a7.1 * 256)))) + a8.1)) a1, a8.2.1, a8.2.2))))))))
theorem spec_l01Below.calls (g : Nat) (a2 : List Int) (a3 : Int) (a5 : Int) (a1 : Int) (r1 : Int) (r2 : Int) (r3 : Int) (w0 w : World) (hI : IsS74 w0 w g a2 a3 a5) (hB : Below w0.heap.size w0 w) (h : spec_l01Below.f a2 a3 a5 a1 = some (r1, r2, r3)) :
  Calls Try.prog 44 #[.pointer (some ⟨g, 0, none⟩), .int .i64 a1] w fun e w' => e = .returned (.int .i64 r1) ∧ IsS74 w0 w' g a2 r2 r3 ∧ Below w0.heap.size w0 w' ∧ KeepBut w w' g none := by
 have HI0 := aM hI
 have HK := aM (KeepBut.refl w g none)
 have HL := aM hB.size
 clear hI
 have HW0 := aM hB.size
 have HB := aM hB
 clear hB
 have H := h
 clear h
 unfold spec_l01Below.f at H
 rcases iD H with ⟨b6, H⟩ | ⟨b6, H⟩
 ·obtain ⟨rfl, rfl, rfl⟩ := sI3 H
  go_enter Try.func44, Try.ntmps44
  go_wp2
  go_ret
  exact ⟨eS, iS74 HI0, bI HB (IsS74.ge HI0.out), by repeat (first | (with_reducible first | exact HK.out | apply KeepBut.set_ | apply keep_drewN | apply keep_drew | apply keep_alloc) | exact HK.out)⟩
 ·rcases iD H with ⟨b7, H⟩ | ⟨b7, H⟩
  ·replace H := bN H
   obtain ⟨⟨b8, b9, d0⟩, A5, H⟩ := H
   by_cases c6 : a1 = 0
   ·rw [if_pos c6] at H
    exact absurd H (by simp)
   ·rw [if_neg c6] at H
    have e2 : (a1 == 0) = false := beq_eq_false_iff_ne.mpr c6
    have e3 : (a1 != 0) = true := bne_iff_ne.mpr c6
    obtain ⟨rfl, rfl, rfl⟩ := sI3 H
    go_enter Try.func44, Try.ntmps44
    go_wp2_with (first | ((with_reducible refine gC 64 ?_); refine cL (some 14) Try.func64 #[.pointer (some ⟨g, 0, none⟩)] ?_; (with_reducible refine (spec_l01Byte.calls g a2 a3 a5 b8 b9 d0 w0 _ ?side1 ?side2 A5.out).mono ?_); (case side1 => exact iS74 HI0); (case side2 => exact bI HB (IsS74.ge HI0.out)); rintro e w7 ⟨rfl, hi, hb, hk⟩; refine ⟨_, rfl, ?_⟩; replace HK := aM (KeepBut.trans (kp HK) hk (.inl rfl)); replace HB := aM (hb); replace HI0 := aM (hi); (try clear hb hk hi)))
    go_ret
    exact ⟨eS, iS74 HI0, bI HB (IsS74.ge HI0.out), by repeat (first | (with_reducible first | exact HK.out | apply KeepBut.set_ | apply keep_drewN | apply keep_drew | apply keep_alloc) | exact HK.out)⟩
  ·replace H := bN H
   obtain ⟨⟨d1, a6, a7⟩, A8, H⟩ := H
   replace H := bN H
   obtain ⟨⟨d2, a8, a9⟩, A9, H⟩ := H
   replace H := bN H
   obtain ⟨⟨d3, b0, b1⟩, e4, H⟩ := H
   replace H := bN H
   obtain ⟨⟨d4, d5, d6⟩, e5, H⟩ := H
   by_cases b2 : a1 = 0
   ·rw [if_pos b2] at H
    exact absurd H (by simp)
   ·rw [if_neg b2] at H
    have e0 : (a1 == 0) = false := beq_eq_false_iff_ne.mpr b2
    have e1 : (a1 != 0) = true := bne_iff_ne.mpr b2
    obtain ⟨rfl, rfl, rfl⟩ := sI3 H
    go_enter Try.func44, Try.ntmps44
    go_wp2_with (first | ((with_reducible refine gC 64 ?_); refine cL (some 18) Try.func64 #[.pointer (some ⟨g, 0, none⟩)] ?_; (with_reducible refine (spec_l01Byte.calls g a2 a3 a5 d1 a6 a7 w0 _ ?side1 ?side2 A8.out).mono ?_); (case side1 => exact iS74 HI0); (case side2 => exact bI HB (IsS74.ge HI0.out)); rintro e e6 ⟨rfl, hi, hb, hk⟩; refine ⟨_, rfl, ?_⟩; replace HK := aM (KeepBut.trans (kp HK) hk (.inl rfl)); replace HB := aM (hb); replace HI0 := aM (hi); (try clear hb hk hi)) | ((with_reducible refine gC 64 ?_); refine cL (some 20) Try.func64 #[.pointer (some ⟨g, 0, none⟩)] ?_; (with_reducible refine (spec_l01Byte.calls g a2 a6 a7 d2 a8 a9 w0 _ ?side1 ?side2 A9.out).mono ?_); (case side1 => exact iS74 HI0); (case side2 => exact bI HB (IsS74.ge HI0.out)); rintro e e7 ⟨rfl, hi, hb, hk⟩; refine ⟨_, rfl, ?_⟩; replace HK := aM (KeepBut.trans (kp HK) hk (.inl rfl)); replace HB := aM (hb); replace HI0 := aM (hi); (try clear hb hk hi)) | ((with_reducible refine gC 64 ?_); refine cL (some 22) Try.func64 #[.pointer (some ⟨g, 0, none⟩)] ?_; (with_reducible refine (spec_l01Byte.calls g a2 a8 a9 d3 b0 b1 w0 _ ?side1 ?side2 e4.out).mono ?_); (case side1 => exact iS74 HI0); (case side2 => exact bI HB (IsS74.ge HI0.out)); rintro e e8 ⟨rfl, hi, hb, hk⟩; refine ⟨_, rfl, ?_⟩; replace HK := aM (KeepBut.trans (kp HK) hk (.inl rfl)); replace HB := aM (hb); replace HI0 := aM (hi); (try clear hb hk hi)) | ((with_reducible refine gC 64 ?_); refine cL (some 24) Try.func64 #[.pointer (some ⟨g, 0, none⟩)] ?_; (with_reducible refine (spec_l01Byte.calls g a2 b0 b1 d4 d5 d6 w0 _ ?side1 ?side2 e5.out).mono ?_); (case side1 => exact iS74 HI0); (case side2 => exact bI HB (IsS74.ge HI0.out)); rintro e e9 ⟨rfl, hi, hb, hk⟩; refine ⟨_, rfl, ?_⟩; replace HK := aM (KeepBut.trans (kp HK) hk (.inl rfl)); replace HB := aM (hb); replace HI0 := aM (hi); (try clear hb hk hi)))
    go_ret
    exact ⟨eS, iS74 HI0, bI HB (IsS74.ge HI0.out), by repeat (first | (with_reducible first | exact HK.out | apply KeepBut.set_ | apply keep_drewN | apply keep_drew | apply keep_alloc) | exact HK.out)⟩

/-! ### spec_l01Pick: function 45 -/
def spec_l01Pick.f (a3 : List Int) (a5 : Int) (a6 : Int) (l1 : List ByteArray) : Option (ByteArray × Int × Int) := (spec_l01Below.f a3 a5 a6 (l1.length : Int)).bind fun a2 => (if 0 ≤ a2.1 then (if a2.1 < (l1.length : Int) then (some (rdOf ByteArray.empty l1 a2.1, a2.2.1, a2.2.2)) else (none)) else (none))
theorem spec_l01Pick.calls (g : Nat) (a5 : List Int) (a6 : Int) (a7 : Int) (A1 : Option Addr) (c1 : Nat) (l1 : List ByteArray) (r1 : ByteArray) (r2 : Int) (r3 : Int) (w0 w : World) (hI : IsS74 w0 w g a5 a6 a7) (hB : Below w0.heap.size w0 w) (b7 : Kd.C Kd.string w A1 l1.length l1) (b8 : l1.length ≤ c1) (hf1 : ∀ ad, A1 = some ad → 0 < l1.length → ad.block ≠ g) (h : spec_l01Pick.f a5 a6 a7 l1 = some (r1, r2, r3)) :
  Calls Try.prog 45 #[.pointer (some ⟨g, 0, none⟩), .slice A1 l1.length c1] w fun e w' => e = .returned (.string r1) ∧ IsS74 w0 w' g a5 r2 r3 ∧ Below w0.heap.size w0 w' ∧ KeepBut w w' g none := by
 have b9 := aM b7
 have d2 := aM b8
 clear b7 b8
 have HI0 := aM hI
 have HK := aM (KeepBut.refl w g none)
 have HL := aM hB.size
 clear hI
 have HW0 := aM hB.size
 have HB := aM hB
 clear hB
 have H := h
 clear h
 unfold spec_l01Pick.f at H
 replace H := bN H
 obtain ⟨⟨a3, b1, b2⟩, A3, H⟩ := H
 by_cases c4 : 0 ≤ a3
 ·rw [if_pos c4] at H
  have d0 : decide (0 ≤ a3) = true := decide_eq_true c4
  clear c4
  obtain ⟨d1, H⟩ := iT H
  obtain ⟨rfl, rfl, rfl⟩ := sI3 H
  go_enter Try.func45, Try.ntmps45
  go_wp2_with (first | ((with_reducible refine gC 44 ?_); refine cL (some 9) Try.func44 #[.pointer (some ⟨g, 0, none⟩), .int .i64 (l1.length : Int)] ?_; (with_reducible refine (spec_l01Below.calls g a5 a6 a7 (l1.length : Int) a3 b1 b2 w0 _ ?side1 ?side2 A3.out).mono ?_); (case side1 => exact iS74 HI0); (case side2 => exact bI HB (IsS74.ge HI0.out)); rintro e w6 ⟨rfl, hi, hb, hk⟩; refine ⟨_, rfl, ?_⟩; replace HK := aM (KeepBut.trans (kp HK) hk (.inl rfl)); replace HB := aM (hb); replace HI0 := aM (hi); (try clear hb hk hi); have a8 : 0 ≤ (a3 : Int) := dA; have a9 : a3 < (l1.length : Int) := dA; obtain ⟨b0, b6, a2⟩ := Kd.at_string b9.out a3 a8 a9; cases b6; replace a2 := keep_cell HK.out a2 (by first | (rw [add_block]; exact hf1 _ rfl (by omega)) | exact hf1 _ rfl (by omega) | exact hf1 b0 rfl (by omega)); replace a8 := eq_true a8; replace a9 := eq_true a9))
  go_ret
  exact ⟨eS, iS74 HI0, bI HB (IsS74.ge HI0.out), by repeat (first | (with_reducible first | exact HK.out | apply KeepBut.set_ | apply keep_drewN | apply keep_drew | apply keep_alloc) | exact HK.out)⟩
 ·rw [if_neg c4] at H
  exact absurd H (by simp)

/-! ### spec_l06First: function 46 -/
def spec_l06First.f (a0 : Int) : Option (Int) := if a0 = 0 then (some 1) else (some 0)
theorem spec_l06First.calls (a0 : Int) (r : Int) (w : World) (h : spec_l06First.f a0 = some r) :
  Calls Try.prog 46 #[.int .i64 a0] w fun e w' => e = .returned (.int .i64 r) ∧ Drawn0 w w' := by
 have H := h
 clear h
 unfold spec_l06First.f at H
 by_cases c2 : a0 = 0
 ·rw [if_pos c2] at H
  have a2 : (a0 == 0) = true := beq_iff_eq.mpr c2
  have a3 : (a0 != 0) = false := bne_eq_false_iff_eq.mpr c2
  clear c2
  obtain rfl := Option.some.inj H
  go_enter Try.func46, Try.ntmps46
  go_wp2
  go_ret
  exact ⟨fS, dS⟩
 ·rw [if_neg c2] at H
  have a2 : (a0 == 0) = false := beq_eq_false_iff_ne.mpr c2
  have a3 : (a0 != 0) = true := bne_iff_ne.mpr c2
  obtain rfl := Option.some.inj H
  go_enter Try.func46, Try.ntmps46
  go_wp2
  go_ret
  exact ⟨fS, dS⟩

/-! ### spec_l07Tokens: function 29 -/
mutual
def spec_l07Tokens.l0 : Nat → List (S40) → Int → List Int → Int → Int → Option ((List (S40)) × Int × Int)
 | 0, _, _, _, _, _ => none
 | k + 1, x3, x4, a2, a3, a5 => (spec_l01Below.f a2 a3 a5 5).bind fun a7 => (if x4 < (wrap64 (1 + a7.1)) then (spec_l07Tokens.j1 k x3 x4 (decide ((x3.length : Int) < 40)) a2 a7.2.1 a7.2.2) else (spec_l07Tokens.j1 k x3 x4 false a2 a7.2.1 a7.2.2))
def spec_l07Tokens.j1 : Nat → List (S40) → Int → Bool → List Int → Int → Int → Option ((List (S40)) × Int × Int)
 | 0, _, _, _, _, _, _ => none
 | k + 1, x3, x4, e5, a2, a3, a5 => if e5 = true then ((spec_l01Below.f a2 a3 a5 7).bind fun a6 => (if a6.1 = 0 then ((spec_l01Below.f a2 a6.2.1 a6.2.2 256).bind fun a8 => ((some (([(⟨(⟨#[]⟩ : ByteArray), a8.1⟩ : S40), (⟨(⟨#[103, 114, 97, 121]⟩ : ByteArray), 0⟩ : S40)] : List (S40)) : List (S40))).bind fun d5 => (if x3.length + d5.length < 5864062014805 then (spec_l07Tokens.l0 k (x3 ++ d5) (wrap64 (x4 + 1)) a2 a8.2.1 a8.2.2) else (none)))) else (if a6.1 = 1 then (spec_l07Tokens.j2 k x3 x4 a6.1 (a6.1 == 1) a2 a6.2.1 a6.2.2) else (spec_l07Tokens.j2 k x3 x4 a6.1 (a6.1 == 2) a2 a6.2.1 a6.2.2)))) else (some (x3, a3, a5))
def spec_l07Tokens.j2 : Nat → List (S40) → Int → Int → Bool → List Int → Int → Int → Option ((List (S40)) × Int × Int)
 | 0, _, _, _, _, _, _, _ => none
 | k + 1, x3, x4, d3, e6, a2, a3, a5 => if e6 = true then ((spec_l01Below.f a2 a3 a5 28).bind fun a9 => ((spec_l01Below.f a2 a9.2.1 a9.2.2 28).bind fun b0 => ((spec_l01Below.f a2 b0.2.1 b0.2.2 14).bind fun b1 => ((spec_l01Below.f a2 b1.2.1 b1.2.2 14).bind fun b2 => ((some (([(⟨(⟨#[]⟩ : ByteArray), a9.1⟩ : S40), (⟨(⟨#[]⟩ : ByteArray), b0.1⟩ : S40), (⟨(⟨#[]⟩ : ByteArray), wrap64 (1 + b1.1)⟩ : S40), (⟨(⟨#[]⟩ : ByteArray), wrap64 (1 + b2.1)⟩ : S40)] : List (S40)) : List (S40))).bind fun d6 => (if x3.length + d6.length < 5864062014805 then ((some (x3 ++ d6 : List (S40))).bind fun e0 => ((spec_l01Pick.f a2 b2.2.1 b2.2.2 (([(⟨#[102, 105, 108, 108]⟩ : ByteArray), (⟨#[102, 105, 108, 108]⟩ : ByteArray), (⟨#[102, 105, 108, 108]⟩ : ByteArray), (⟨#[99, 108, 105, 112]⟩ : ByteArray)] : List ByteArray))).bind fun b6 => ((some (([(⟨(⟨#[114, 101, 99, 116]⟩ : ByteArray), 0⟩ : S40), (⟨b6.1, 0⟩ : S40)] : List (S40)) : List (S40))).bind fun e1 => (if e0.length + e1.length < 5864062014805 then (spec_l07Tokens.l0 k (e0 ++ e1) (wrap64 (x4 + 1)) a2 b6.2.1 b6.2.2) else (none))))) else (none))))))) else (if d3 = 3 then (spec_l07Tokens.j3 k x3 x4 d3 (d3 == 3) a2 a3 a5) else (spec_l07Tokens.j3 k x3 x4 d3 (d3 == 4) a2 a3 a5))
def spec_l07Tokens.j3 : Nat → List (S40) → Int → Int → Bool → List Int → Int → Int → Option ((List (S40)) × Int × Int)
 | 0, _, _, _, _, _, _, _ => none
 | k + 1, x3, x4, d3, e7, a2, a3, a5 => if e7 = true then ((spec_l01Below.f a2 a3 a5 3).bind fun b7 => (spec_l07Tokens.l1 k x3 x4 (wrap64 (3 + b7.1)) 0 a2 b7.2.1 b7.2.2)) else (if d3 = 5 then ((spec_l01Pick.f a2 a3 a5 (([(⟨#[115, 97, 118, 101]⟩ : ByteArray), (⟨#[114, 101, 115, 116, 111, 114, 101]⟩ : ByteArray), (⟨#[110, 101, 119]⟩ : ByteArray)] : List ByteArray))).bind fun b8 => (if x3.length < 5864062014805 then (spec_l07Tokens.l0 k (x3 ++ [(⟨b8.1, 0⟩ : S40)]) (wrap64 (x4 + 1)) a2 b8.2.1 b8.2.2) else (none))) else ((spec_l01Below.f a2 a3 a5 5).bind fun b9 => ((spec_l01Below.f a2 b9.2.1 b9.2.2 5).bind fun d0 => ((some (([(⟨(⟨#[]⟩ : ByteArray), b9.1⟩ : S40), (⟨(⟨#[]⟩ : ByteArray), d0.1⟩ : S40), (⟨(⟨#[115, 104, 105, 102, 116]⟩ : ByteArray), 0⟩ : S40)] : List (S40)) : List (S40))).bind fun e2 => (if x3.length + e2.length < 5864062014805 then (spec_l07Tokens.l0 k (x3 ++ e2) (wrap64 (x4 + 1)) a2 d0.2.1 d0.2.2) else (none))))))
def spec_l07Tokens.l1 : Nat → List (S40) → Int → Int → Int → List Int → Int → Int → Option ((List (S40)) × Int × Int)
 | 0, _, _, _, _, _, _, _ => none
 | k + 1, x3, x4, x8, x9, a2, a3, a5 => if x9 < x8 then ((spec_l01Below.f a2 a3 a5 33).bind fun d1 => ((spec_l01Below.f a2 d1.2.1 d1.2.2 33).bind fun d2 => ((some (([(⟨#[108, 105, 110, 101, 116, 111]⟩ : ByteArray), (⟨#[109, 111, 118, 101, 116, 111]⟩ : ByteArray)] : List ByteArray) : List ByteArray)).bind fun e3 => ((spec_l06First.f x9).bind fun d4 => (if 0 ≤ d4 then (if d4 < (e3.length : Int) then ((some (([(⟨(⟨#[]⟩ : ByteArray), d1.1⟩ : S40), (⟨(⟨#[]⟩ : ByteArray), d2.1⟩ : S40), (⟨rdOf ByteArray.empty e3 d4, 0⟩ : S40)] : List (S40)) : List (S40))).bind fun e4 => (if x3.length + e4.length < 5864062014805 then (spec_l07Tokens.l1 k (x3 ++ e4) x4 x8 (wrap64 (x9 + 1)) a2 d2.2.1 d2.2.2) else (none))) else (none)) else (none)))))) else (if x3.length < 5864062014805 then (spec_l07Tokens.l0 k (x3 ++ [(⟨(⟨#[102, 105, 108, 108]⟩ : ByteArray), 0⟩ : S40)]) (wrap64 (x4 + 1)) a2 a3 a5) else (none))
end
def spec_l07Tokens.f (k : Nat) (a2 : List Int) (a3 : Int) (a5 : Int) : Option ((List (S40)) × Int × Int) := spec_l07Tokens.l0 k (([] : List (S40))) 0 a2 a3 a5
theorem spec_l07Tokens.calls (k : Nat) (g : Nat) (a3 : List Int) (k7 : Int) (k9 : Int) (r1 : List (S40)) (r2 : Int) (r3 : Int) (w0 w : World) (hI : IsS74 w0 w g a3 k7 k9) (hB : Below w0.heap.size w0 w) (h : spec_l07Tokens.f k a3 k7 k9 = some (r1, r2, r3)) :
  Calls Try.prog 29 #[.pointer (some ⟨g, 0, none⟩)] w fun e w' => ∃ v0_ : Value, e = .returned (v0_) ∧ Kd.R k40 40 w' w.heap.size (fun _ => True) v0_ r1 ∧ IsS74 w0 w' g a3 r2 r3 ∧ Below w0.heap.size w0 w' ∧ KeepBut w w' g none := by
 have hu40 := Try.underlying40
 have HI0 := aM hI
 have HK := aM (KeepBut.refl w g none)
 have HL := aM hB.size
 clear hI
 have HW0 := aM hB.size
 have HB := aM hB
 clear hB
 have H := h
 clear h
 unfold spec_l07Tokens.f at H
 obtain ⟨o0, hy_⟩ : ∃ y_ : List (S40), y_ = (([] : List (S40))) := ⟨_, rfl⟩
 replace H : (spec_l07Tokens.l0 k o0 0 a3 k7 k9) = some (r1, r2, r3) := yS
 have Ny576 := aM hy_
 clear hy_
 have H' := aM H
 clear H
 go_enter Try.func29, Try.ntmps29
 go_wp2_with (first | ((with_reducible refine gate_dst (N := 12) rfl ?_); (try (refine gG (by rfl) (by rfl) ?_; dsimp only)); refine Kd.R_lit k40 _ 40 ?hg (N := 12) ?hd (xs := ([] : List (S40))) (inner := []) (ok := fun _ => True) (okp := fun _ => True) ?hr ?hp (fun _ hk => hk) trivial (Below.refl _ _) (Nat.le_refl _) (by simp) ?_; (case hd => rfl); (case hg => rfl); (case hr => first | (go_simp; done) | (go_simp; rfl)); (case hp => exact (Reps.none _ _)); intro v2 w2 o1 hb hg_ hnew_; clear hg_ hnew_; (first | rw [← Ny576.out] at o1 | (simp only [Int.reduceToNat] at o1; rw [← Ny576.out] at o1)); have o4 := aM (Kd.R_lower o1 (keep_size (w := w) (g := g) (row := none) (kp HK))); replace HK := aM (KeepBut.trans (kp HK) (KeepBut.of_below hb g none) (.inl rfl)); replace HB := aM (below_step (bI HB (IsS74.ge HI0.out)) hb); replace HI0 := aM (IsS74.below (iS74 HI0) hb); clear hb o1))
 go_loopg [3, 4] k (fun kq v3 v4 w' => ∃ (a6 : List (S40)) (a7 : Int) (b1 : Int) (b2 : Int), v4 = .int .i64 a7 ∧ Aside0 (spec_l07Tokens.l0 kq a6 a7 a3 b1 b2 = some (r1, r2, r3)) ∧ Aside0 (kq ≤ k) ∧ Aside0 (Kd.R k40 40 w' w.heap.size (fun _ => True) v3 a6) ∧ Aside0 (IsS74 w0 w' g a3 b1 b2) ∧ Aside0 (KeepBut w w' g none) ∧ Aside0 (Below w0.heap.size w0 w'))
 case atStart => exact ⟨(o0), (0), (k7), (k9), fS, H', ⟨Nat.le_refl _⟩, ⟨rS o4⟩, ⟨iS74 HI0⟩, ⟨kp HK⟩, ⟨bI HB (IsS74.ge HI0.out)⟩⟩
 case round =>
  clear H'
  try clear c2
  try clear p2
  obtain ⟨a6, a7, b1, b2, rfl, HA, f3, a2, HI0, HK, HB⟩ := hrel
  cases gk with
  | zero => exact absurd HA.out (by simp [spec_l07Tokens.l0])
  | succ k1 =>
   have H := HA.out
   clear HA
   simp only [spec_l07Tokens.l0] at H
   have s3 := aM H
   clear H
   go_upto_region 3 with (fail)
   go_cut [22] (fun v5 wc => ∃ (kq : Nat) (h1 : Bool) (b6 : Int) (b7 : Int), v5 = .bool h1 ∧ Aside0 (spec_l07Tokens.j1 kq a6 a7 h1 a3 b6 b7 = some (r1, r2, r3)) ∧ Aside0 (kq ≤ k1) ∧ Aside0 (Kd.R k40 40 wc w.heap.size (fun _ => True) u3 a6) ∧ Aside0 (IsS74 w0 wc g a3 b6 b7) ∧ Aside0 (KeepBut w wc g none) ∧ Aside0 (Below w0.heap.size w0 wc))
   case first =>
    have H := s3.out
    clear s3
    replace H := bN H
    obtain ⟨⟨o5, l3, l4⟩, A5, H⟩ := H
    rcases iD H with ⟨e4, H⟩ | ⟨e4, H⟩
    ·(first | rw [e4] | (simp only [i64_w, i32_w]; rw [e4]) | skip)
     have H' := aM H
     clear H
     go_wp2_with (first | ((with_reducible refine gC 44 ?_); refine cL (some 15) Try.func44 #[.pointer (some ⟨g, 0, none⟩), .int .i64 5] ?_; (with_reducible refine (spec_l01Below.calls g a3 b1 b2 5 o5 l3 l4 w0 _ ?side1 ?side2 A5.out).mono ?_); (case side1 => exact iS74 HI0); (case side2 => exact bI HB (IsS74.ge HI0.out)); rintro e w7 ⟨rfl, hi, hb, hk⟩; refine ⟨_, rfl, ?_⟩; replace a2 := aM (Kd.R_mono (Kd.R_keep (IsS74.apart (show IsS74 w0 _ g a3 b1 b2 from iS74 HI0) (rS a2) (by decide)) hk (fun _ h => h.2)) (fun _ h => h.1)); replace HK := aM (KeepBut.trans (kp HK) hk (.inl rfl)); replace HB := aM (hb); replace HI0 := aM (hi); (try clear hb hk hi); obtain ⟨C0, C2, v6⟩ := Kd.R_slice a2.out; subst v6))
     go_meet
     case rel => exact ⟨_, (decide ((a6.length : Int) < 40)), (l3), (l4), fS, H', ⟨by have := f3.out; first | omega | exact Nat.le_refl _⟩, ⟨rS a2⟩, ⟨iS74 HI0⟩, ⟨kp HK⟩, ⟨bI HB (IsS74.ge HI0.out)⟩⟩
    ·(first | rw [e4] | (simp only [i64_w, i32_w]; rw [e4]) | skip)
     have H' := aM H
     clear H
     go_wp2_with (first | ((with_reducible refine gC 44 ?_); refine cL (some 15) Try.func44 #[.pointer (some ⟨g, 0, none⟩), .int .i64 5] ?_; (with_reducible refine (spec_l01Below.calls g a3 b1 b2 5 o5 l3 l4 w0 _ ?side1 ?side2 A5.out).mono ?_); (case side1 => exact iS74 HI0); (case side2 => exact bI HB (IsS74.ge HI0.out)); rintro e w9 ⟨rfl, hi, hb, hk⟩; refine ⟨_, rfl, ?_⟩; replace a2 := aM (Kd.R_mono (Kd.R_keep (IsS74.apart (show IsS74 w0 _ g a3 b1 b2 from iS74 HI0) (rS a2) (by decide)) hk (fun _ h => h.2)) (fun _ h => h.1)); replace HK := aM (KeepBut.trans (kp HK) hk (.inl rfl)); replace HB := aM (hb); replace HI0 := aM (hi); (try clear hb hk hi)))
     go_meet
     case rel => exact ⟨_, (false), (l3), (l4), fS, H', ⟨by have := f3.out; first | omega | exact Nat.le_refl _⟩, ⟨rS a2⟩, ⟨iS74 HI0⟩, ⟨kp HK⟩, ⟨bI HB (IsS74.ge HI0.out)⟩⟩
   case rest =>
    clear s3
    try clear c2
    try clear p2
    try clear c4
    try clear c6
    try clear e4
    try clear p6
    try clear p2
    obtain ⟨kq, h1, b6, b7, rfl, HA, HJ3, a2, HI0, HK, HB⟩ := hcut
    cases kq with
    | zero => exact absurd HA.out (by simp [spec_l07Tokens.j1])
    | succ kj3 =>
     have H := HA.out
     clear HA
     simp only [spec_l07Tokens.j1] at H
     by_cases c10 : h1 = true
     ·subst c10
      rw [if_pos rfl] at H
      replace H := bN H
      obtain ⟨⟨a5, b9, d0⟩, u6, H⟩ := H
      by_cases k4 : a5 = 0
      ·rw [if_pos k4] at H
       have h2 : (a5 == 0) = true := beq_iff_eq.mpr k4
       have h3 : (a5 != 0) = false := bne_eq_false_iff_eq.mpr k4
       clear k4
       replace H := bN H
       obtain ⟨⟨g1, i3, i4⟩, v7, H⟩ := H
       obtain ⟨i5, hy_⟩ : ∃ y_ : List (S40), y_ = (([(⟨(⟨#[]⟩ : ByteArray), g1⟩ : S40), (⟨(⟨#[103, 114, 97, 121]⟩ : ByteArray), 0⟩ : S40)] : List (S40))) := ⟨_, rfl⟩
       replace H : (if a6.length + i5.length < 5864062014805 then (spec_l07Tokens.l0 kj3 (a6 ++ i5) (wrap64 (a7 + 1)) a3 i3 i4) else (none)) = some (r1, r2, r3) := yS
       have Ny588 := aM hy_
       clear hy_
       obtain ⟨LMc14, H⟩ := iL H
       obtain ⟨o6, hy_⟩ : ∃ y_ : List (S40), y_ = (a6 ++ i5) := ⟨_, rfl⟩
       replace H : (spec_l07Tokens.l0 kj3 o6 (wrap64 (a7 + 1)) a3 i3 i4) = some (r1, r2, r3) := yS
       have Ny591 := aM hy_
       clear hy_
       have H' := aM H
       clear H
       go_wp2_with (first | ((with_reducible refine gC 44 ?_); refine cL (some 26) Try.func44 #[.pointer (some ⟨g, 0, none⟩), .int .i64 7] ?_; (with_reducible refine (spec_l01Below.calls g a3 b6 b7 7 a5 b9 d0 w0 _ ?side1 ?side2 u6.out).mono ?_); (case side1 => exact iS74 HI0); (case side2 => exact bI HB (IsS74.ge HI0.out)); rintro e C3 ⟨rfl, hi, hb, hk⟩; refine ⟨_, rfl, ?_⟩; replace a2 := aM (Kd.R_mono (Kd.R_keep (IsS74.apart (show IsS74 w0 _ g a3 b6 b7 from iS74 HI0) (rS a2) (by decide)) hk (fun _ h => h.2)) (fun _ h => h.1)); replace HK := aM (KeepBut.trans (kp HK) hk (.inl rfl)); replace HB := aM (hb); replace HI0 := aM (hi); (try clear hb hk hi)) | ((with_reducible refine gC 44 ?_); refine cL (some 42) Try.func44 #[.pointer (some ⟨g, 0, none⟩), .int .i64 256] ?_; (with_reducible refine (spec_l01Below.calls g a3 b9 d0 256 g1 i3 i4 w0 _ ?side1 ?side2 v7.out).mono ?_); (case side1 => exact iS74 HI0); (case side2 => exact bI HB (IsS74.ge HI0.out)); rintro e C4 ⟨rfl, hi, hb, hk⟩; refine ⟨_, rfl, ?_⟩; replace a2 := aM (Kd.R_mono (Kd.R_keep (IsS74.apart (show IsS74 w0 _ g a3 b9 d0 from iS74 HI0) (rS a2) (by decide)) hk (fun _ h => h.2)) (fun _ h => h.1)); replace HK := aM (KeepBut.trans (kp HK) hk (.inl rfl)); replace HB := aM (hb); replace HI0 := aM (hi); (try clear hb hk hi)) | ((with_reducible refine gate_dst (N := 45) rfl ?_); (try (refine gG (by rfl) (by rfl) ?_; dsimp only)); refine Kd.R_lit k40 _ 40 ?hg (N := 45) ?hd (xs := ([(⟨(⟨#[]⟩ : ByteArray), g1⟩ : S40), (⟨(⟨#[103, 114, 97, 121]⟩ : ByteArray), 0⟩ : S40)] : List (S40))) (inner := [.string (⟨#[]⟩ : ByteArray), .int .i64 g1, .string (⟨#[103, 114, 97, 121]⟩ : ByteArray), .int .i64 0]) (ok := fun _ => True) (okp := fun _ => True) ?hr ?hp (fun _ hk => hk) trivial (Below.refl _ _) (Nat.le_refl _) (by simp) ?_; (case hd => rfl); (case hg => rfl); (case hr => first | (go_simp; done) | (go_simp; rfl)); (case hp => exact (Reps.c2 (show Kd.M k40 _ _ _ (⟨(⟨#[]⟩ : ByteArray), g1⟩ : S40) [.string (⟨#[]⟩ : ByteArray), .int .i64 g1] from (k40_mkM _ _ _ (⟨(⟨#[]⟩ : ByteArray), g1⟩ : S40) )) (Reps.c2 (show Kd.M k40 _ _ _ (⟨(⟨#[103, 114, 97, 121]⟩ : ByteArray), 0⟩ : S40) [.string (⟨#[103, 114, 97, 121]⟩ : ByteArray), .int .i64 0] from (k40_mkM _ _ _ (⟨(⟨#[103, 114, 97, 121]⟩ : ByteArray), 0⟩ : S40) )) (Reps.none _ _)))); intro v8 C5 h5 hb hg_ hnew_; clear hg_ hnew_; (first | rw [← Ny588.out] at h5 | (simp only [Int.reduceToNat] at h5; rw [← Ny588.out] at h5)); have f4 := aM (Kd.R_lower (Kd.R_new' h5 (Kd.R_lt (rS a2))) (keep_size (w := w) (g := g) (row := none) (kp HK))); replace a2 := aM (Kd.R_elder' (rS a2) (Kd.R_base h5) hb); replace HK := aM (KeepBut.trans (kp HK) (KeepBut.of_below hb g none) (.inl rfl)); replace HB := aM (below_step (bI HB (IsS74.ge HI0.out)) hb); replace HI0 := aM (IsS74.below (iS74 HI0) hb); clear hb h5; obtain ⟨s4, s5, s6⟩ := Kd.R_slice f4.out; subst s6) | ((with_reducible refine gate_builtin (b := .append) (xs := #[.tmp 40, .tmp 45]) rfl ?_); (try (refine gG (by rfl) (by rfl) ?_; dsimp only)); at_builtin; refine Kd.R_append_rows k40 w.heap.size rfl (.tmp 40) (.tmp 45) 71 40 (.agg #[(.string ⟨#[]⟩), (.int .i64 0)]) 24 rfl Try.underlying71 info40 rfl (by decide) (by omega) u3 a6 i5 _ _ _ (fun k_ => some k_ ≠ (.slice s4 i5.length s5 : Value).ownBlock) (fun _ => False) rfl rfl ?aO ?aR (fun _ _ h => h) (fun _ h => h.elim) ?aF (Below.refl _ _) ?aS ?aL ?_; (case aR => exact cS (Kd.R_reads' f4.out).2.2); (case aF => exact (fun k_ hk => Kd.fresh' (Kd.R_lt (rS f4)) k_ hk)); (case aO => exact (by exact rM a2)); (case aS => exact (keep_size (w := w) (g := g) (row := none) (kp HK))); (case aL => have := LMc14.out; (try dsimp only at this); omega); intro w8 C6 ho hb hg hat; rw [← Ny591.out] at ho; have o7 := aM (ho); replace f4 := aM (Kd.R_after (ok := (fun _ => True)) (rS f4) hg hat); replace HB := aM (below_weaken (bI HB (IsS74.ge HI0.out)) HL.out hb); replace HI0 := aM (IsS74.grown (show IsS74 w0 _ g a3 i3 i4 from iS74 HI0) hg (IsS74.own_ne HI0.out a2.out (by decide))); replace HK := aM (KeepBut.trans (kp HK) (KeepBut.of_grown hg g) (Kd.R_base2 a2.out)); clear a2; clear ho hb hg hat))
       go_roundg kj3
       case measure => have := f3.out; have := HJ3.out; omega
       case rel => exact ⟨(o6), (wrap64 (a7 + 1)), (i3), (i4), fS, H', ⟨by have := f3.out; have := HJ3.out; omega⟩, ⟨by exact rT (Kd.R_mono o7.out (fun _ hk => trivial))⟩, ⟨iS74 HI0⟩, ⟨kp HK⟩, ⟨bI HB (IsS74.ge HI0.out)⟩⟩
      ·rw [if_neg k4] at H
       have h2 : (a5 == 0) = false := beq_eq_false_iff_ne.mpr k4
       have h3 : (a5 != 0) = true := bne_iff_ne.mpr k4
       have l8 := aM H
       clear H
       go_upto_if 47 with (first | ((with_reducible refine gC 44 ?_); refine cL (some 26) Try.func44 #[.pointer (some ⟨g, 0, none⟩), .int .i64 7] ?_; (with_reducible refine (spec_l01Below.calls g a3 b6 b7 7 a5 b9 d0 w0 _ ?side1 ?side2 u6.out).mono ?_); (case side1 => exact iS74 HI0); (case side2 => exact bI HB (IsS74.ge HI0.out)); rintro e C7 ⟨rfl, hi, hb, hk⟩; refine ⟨_, rfl, ?_⟩; replace a2 := aM (Kd.R_mono (Kd.R_keep (IsS74.apart (show IsS74 w0 _ g a3 b6 b7 from iS74 HI0) (rS a2) (by decide)) hk (fun _ h => h.2)) (fun _ h => h.1)); replace HK := aM (KeepBut.trans (kp HK) hk (.inl rfl)); replace HB := aM (hb); replace HI0 := aM (hi); (try clear hb hk hi)))
       (try simp only [Act.put, List.setIfInBounds_toArray, List.set_cons_zero, List.set_cons_succ])
       go_cut [47] (fun x0 wc => ∃ (kq : Nat) (e5 : Bool), x0 = .bool e5 ∧ Aside0 (spec_l07Tokens.j2 kq a6 a7 a5 e5 a3 b9 d0 = some (r1, r2, r3)) ∧ Aside0 (kq ≤ kj3) ∧ Aside0 (Kd.R k40 40 wc w.heap.size (fun _ => True) u3 a6) ∧ Aside0 (IsS74 w0 wc g a3 b9 d0) ∧ Aside0 (KeepBut w wc g none) ∧ Aside0 (Below w0.heap.size w0 wc))
       case first =>
        have H := l8.out
        clear l8
        by_cases k6 : a5 = 1
        ·rw [if_pos k6] at H
         have d5 : (a5 == 1) = true := beq_iff_eq.mpr k6
         have h4 : (a5 != 1) = false := bne_eq_false_iff_eq.mpr k6
         clear k6
         (first | rw [d5] | (simp only [i64_w, i32_w]; rw [d5]) | skip)
         have H' := aM H
         clear H
         go_wp2
         go_meet
         case rel => exact ⟨_, ((a5 == 1)), fS, H', ⟨by have := f3.out; have := HJ3.out; first | omega | exact Nat.le_refl _⟩, ⟨rS a2⟩, ⟨iS74 HI0⟩, ⟨kp HK⟩, ⟨bI HB (IsS74.ge HI0.out)⟩⟩
        ·rw [if_neg k6] at H
         have d5 : (a5 == 1) = false := beq_eq_false_iff_ne.mpr k6
         have h4 : (a5 != 1) = true := bne_iff_ne.mpr k6
         (first | rw [d5] | (simp only [i64_w, i32_w]; rw [d5]) | skip)
         have H' := aM H
         clear H
         go_wp2
         go_meet
         case rel => exact ⟨_, ((a5 == 2)), fS, H', ⟨by have := f3.out; have := HJ3.out; first | omega | exact Nat.le_refl _⟩, ⟨rS a2⟩, ⟨iS74 HI0⟩, ⟨kp HK⟩, ⟨bI HB (IsS74.ge HI0.out)⟩⟩
       case rest =>
        clear l8
        try clear c1
        try clear c2
        try clear p2
        try clear c4
        try clear c6
        try clear e4
        try clear p6
        try clear c10
        try clear k4
        try clear h2
        try clear h3
        try clear u7
        try clear k6
        try clear d5
        try clear h4
        try clear p2
        try clear p6
        obtain ⟨kq, e5, rfl, HA, HJ20, a2, HI0, HK, HB⟩ := hcut
        cases kq with
        | zero => exact absurd HA.out (by simp [spec_l07Tokens.j2])
        | succ kj20 =>
         have H := HA.out
         clear HA
         simp only [spec_l07Tokens.j2] at H
         by_cases c24 : e5 = true
         ·subst c24
          rw [if_pos rfl] at H
          replace H := bN H
          obtain ⟨⟨g2, l9, m0⟩, x1, H⟩ := H
          replace H := bN H
          obtain ⟨⟨g3, m1, m2⟩, x2, H⟩ := H
          replace H := bN H
          obtain ⟨⟨g4, m3, m4⟩, x3, H⟩ := H
          replace H := bN H
          obtain ⟨⟨g5, e6, e7⟩, x4, H⟩ := H
          obtain ⟨g6, hy_⟩ : ∃ y_ : List (S40), y_ = (([(⟨(⟨#[]⟩ : ByteArray), g2⟩ : S40), (⟨(⟨#[]⟩ : ByteArray), g3⟩ : S40), (⟨(⟨#[]⟩ : ByteArray), wrap64 (1 + g4)⟩ : S40), (⟨(⟨#[]⟩ : ByteArray), wrap64 (1 + g5)⟩ : S40)] : List (S40))) := ⟨_, rfl⟩
          replace H : (if a6.length + g6.length < 5864062014805 then ((some (a6 ++ g6 : List (S40))).bind fun e0 => ((spec_l01Pick.f a3 e6 e7 (([(⟨#[102, 105, 108, 108]⟩ : ByteArray), (⟨#[102, 105, 108, 108]⟩ : ByteArray), (⟨#[102, 105, 108, 108]⟩ : ByteArray), (⟨#[99, 108, 105, 112]⟩ : ByteArray)] : List ByteArray))).bind fun d1 => ((some (([(⟨(⟨#[114, 101, 99, 116]⟩ : ByteArray), 0⟩ : S40), (⟨d1.1, 0⟩ : S40)] : List (S40)) : List (S40))).bind fun d3 => (if e0.length + d3.length < 5864062014805 then (spec_l07Tokens.l0 kj20 (e0 ++ d3) (wrap64 (a7 + 1)) a3 d1.2.1 d1.2.2) else (none))))) else (none)) = some (r1, r2, r3) := yS
          have Ny606 := aM hy_
          clear hy_
          obtain ⟨LMc29, H⟩ := iL H
          obtain ⟨e0, hy_⟩ : ∃ y_ : List (S40), y_ = (a6 ++ g6) := ⟨_, rfl⟩
          replace H : ((spec_l01Pick.f a3 e6 e7 (([(⟨#[102, 105, 108, 108]⟩ : ByteArray), (⟨#[102, 105, 108, 108]⟩ : ByteArray), (⟨#[102, 105, 108, 108]⟩ : ByteArray), (⟨#[99, 108, 105, 112]⟩ : ByteArray)] : List ByteArray))).bind fun d1 => ((some (([(⟨(⟨#[114, 101, 99, 116]⟩ : ByteArray), 0⟩ : S40), (⟨d1.1, 0⟩ : S40)] : List (S40)) : List (S40))).bind fun d3 => (if e0.length + d3.length < 5864062014805 then (spec_l07Tokens.l0 kj20 (e0 ++ d3) (wrap64 (a7 + 1)) a3 d1.2.1 d1.2.2) else (none)))) = some (r1, r2, r3) := yS
          have Ny609 := aM hy_
          clear hy_
          obtain ⟨m5, hy_⟩ : ∃ y_ : List ByteArray, y_ = (([(⟨#[102, 105, 108, 108]⟩ : ByteArray), (⟨#[102, 105, 108, 108]⟩ : ByteArray), (⟨#[102, 105, 108, 108]⟩ : ByteArray), (⟨#[99, 108, 105, 112]⟩ : ByteArray)] : List ByteArray)) := ⟨_, rfl⟩
          replace H : ((spec_l01Pick.f a3 e6 e7 m5).bind fun d1 => ((some (([(⟨(⟨#[114, 101, 99, 116]⟩ : ByteArray), 0⟩ : S40), (⟨d1.1, 0⟩ : S40)] : List (S40)) : List (S40))).bind fun d3 => (if e0.length + d3.length < 5864062014805 then (spec_l07Tokens.l0 kj20 (e0 ++ d3) (wrap64 (a7 + 1)) a3 d1.2.1 d1.2.2) else (none)))) = some (r1, r2, r3) := yS
          have Ny612 := aM hy_
          clear hy_
          replace H := bN H
          obtain ⟨⟨g7, i6, i7⟩, x5, H⟩ := H
          obtain ⟨d3, hy_⟩ : ∃ y_ : List (S40), y_ = (([(⟨(⟨#[114, 101, 99, 116]⟩ : ByteArray), 0⟩ : S40), (⟨g7, 0⟩ : S40)] : List (S40))) := ⟨_, rfl⟩
          replace H : (if e0.length + d3.length < 5864062014805 then (spec_l07Tokens.l0 kj20 (e0 ++ d3) (wrap64 (a7 + 1)) a3 i6 i7) else (none)) = some (r1, r2, r3) := yS
          have Ny618 := aM hy_
          clear hy_
          obtain ⟨LMc31, H⟩ := iL H
          obtain ⟨o8, hy_⟩ : ∃ y_ : List (S40), y_ = (e0 ++ d3) := ⟨_, rfl⟩
          replace H : (spec_l07Tokens.l0 kj20 o8 (wrap64 (a7 + 1)) a3 i6 i7) = some (r1, r2, r3) := yS
          have Ny621 := aM hy_
          clear hy_
          have H' := aM H
          clear H
          go_wp2_with (first | ((with_reducible refine gC 44 ?_); refine cL (some 51) Try.func44 #[.pointer (some ⟨g, 0, none⟩), .int .i64 28] ?_; (with_reducible refine (spec_l01Below.calls g a3 b9 d0 28 g2 l9 m0 w0 _ ?side1 ?side2 x1.out).mono ?_); (case side1 => exact iS74 HI0); (case side2 => exact bI HB (IsS74.ge HI0.out)); rintro e C9 ⟨rfl, hi, hb, hk⟩; refine ⟨_, rfl, ?_⟩; replace a2 := aM (Kd.R_mono (Kd.R_keep (IsS74.apart (show IsS74 w0 _ g a3 b9 d0 from iS74 HI0) (rS a2) (by decide)) hk (fun _ h => h.2)) (fun _ h => h.1)); replace HK := aM (KeepBut.trans (kp HK) hk (.inl rfl)); replace HB := aM (hb); replace HI0 := aM (hi); (try clear hb hk hi)) | ((with_reducible refine gC 44 ?_); refine cL (some 53) Try.func44 #[.pointer (some ⟨g, 0, none⟩), .int .i64 28] ?_; (with_reducible refine (spec_l01Below.calls g a3 l9 m0 28 g3 m1 m2 w0 _ ?side1 ?side2 x2.out).mono ?_); (case side1 => exact iS74 HI0); (case side2 => exact bI HB (IsS74.ge HI0.out)); rintro e D0 ⟨rfl, hi, hb, hk⟩; refine ⟨_, rfl, ?_⟩; replace a2 := aM (Kd.R_mono (Kd.R_keep (IsS74.apart (show IsS74 w0 _ g a3 l9 m0 from iS74 HI0) (rS a2) (by decide)) hk (fun _ h => h.2)) (fun _ h => h.1)); replace HK := aM (KeepBut.trans (kp HK) hk (.inl rfl)); replace HB := aM (hb); replace HI0 := aM (hi); (try clear hb hk hi)) | ((with_reducible refine gC 44 ?_); refine cL (some 55) Try.func44 #[.pointer (some ⟨g, 0, none⟩), .int .i64 14] ?_; (with_reducible refine (spec_l01Below.calls g a3 m1 m2 14 g4 m3 m4 w0 _ ?side1 ?side2 x3.out).mono ?_); (case side1 => exact iS74 HI0); (case side2 => exact bI HB (IsS74.ge HI0.out)); rintro e D1 ⟨rfl, hi, hb, hk⟩; refine ⟨_, rfl, ?_⟩; replace a2 := aM (Kd.R_mono (Kd.R_keep (IsS74.apart (show IsS74 w0 _ g a3 m1 m2 from iS74 HI0) (rS a2) (by decide)) hk (fun _ h => h.2)) (fun _ h => h.1)); replace HK := aM (KeepBut.trans (kp HK) hk (.inl rfl)); replace HB := aM (hb); replace HI0 := aM (hi); (try clear hb hk hi)) | ((with_reducible refine gC 44 ?_); refine cL (some 65) Try.func44 #[.pointer (some ⟨g, 0, none⟩), .int .i64 14] ?_; (with_reducible refine (spec_l01Below.calls g a3 m3 m4 14 g5 e6 e7 w0 _ ?side1 ?side2 x4.out).mono ?_); (case side1 => exact iS74 HI0); (case side2 => exact bI HB (IsS74.ge HI0.out)); rintro e D2 ⟨rfl, hi, hb, hk⟩; refine ⟨_, rfl, ?_⟩; replace a2 := aM (Kd.R_mono (Kd.R_keep (IsS74.apart (show IsS74 w0 _ g a3 m3 m4 from iS74 HI0) (rS a2) (by decide)) hk (fun _ h => h.2)) (fun _ h => h.1)); replace HK := aM (KeepBut.trans (kp HK) hk (.inl rfl)); replace HB := aM (hb); replace HI0 := aM (hi); (try clear hb hk hi)) | ((with_reducible refine gate_dst (N := 68) rfl ?_); (try (refine gG (by rfl) (by rfl) ?_; dsimp only)); refine Kd.R_lit k40 _ 40 ?hg (N := 68) ?hd (xs := ([(⟨(⟨#[]⟩ : ByteArray), g2⟩ : S40), (⟨(⟨#[]⟩ : ByteArray), g3⟩ : S40), (⟨(⟨#[]⟩ : ByteArray), wrap64 (1 + g4)⟩ : S40), (⟨(⟨#[]⟩ : ByteArray), wrap64 (1 + g5)⟩ : S40)] : List (S40))) (inner := [.string (⟨#[]⟩ : ByteArray), .int .i64 g2, .string (⟨#[]⟩ : ByteArray), .int .i64 g3, .string (⟨#[]⟩ : ByteArray), .int .i64 (wrap64 (1 + g4)), .string (⟨#[]⟩ : ByteArray), .int .i64 (wrap64 (1 + g5))]) (ok := fun _ => True) (okp := fun _ => True) ?hr ?hp (fun _ hk => hk) trivial (Below.refl _ _) (Nat.le_refl _) (by simp) ?_; (case hd => rfl); (case hg => rfl); (case hr => first | (go_simp; done) | (go_simp; rfl)); (case hp => exact (Reps.c2 (show Kd.M k40 _ _ _ (⟨(⟨#[]⟩ : ByteArray), g2⟩ : S40) [.string (⟨#[]⟩ : ByteArray), .int .i64 g2] from (k40_mkM _ _ _ (⟨(⟨#[]⟩ : ByteArray), g2⟩ : S40) )) (Reps.c2 (show Kd.M k40 _ _ _ (⟨(⟨#[]⟩ : ByteArray), g3⟩ : S40) [.string (⟨#[]⟩ : ByteArray), .int .i64 g3] from (k40_mkM _ _ _ (⟨(⟨#[]⟩ : ByteArray), g3⟩ : S40) )) (Reps.c2 (show Kd.M k40 _ _ _ (⟨(⟨#[]⟩ : ByteArray), wrap64 (1 + g4)⟩ : S40) [.string (⟨#[]⟩ : ByteArray), .int .i64 (wrap64 (1 + g4))] from (k40_mkM _ _ _ (⟨(⟨#[]⟩ : ByteArray), wrap64 (1 + g4)⟩ : S40) )) (Reps.c2 (show Kd.M k40 _ _ _ (⟨(⟨#[]⟩ : ByteArray), wrap64 (1 + g5)⟩ : S40) [.string (⟨#[]⟩ : ByteArray), .int .i64 (wrap64 (1 + g5))] from (k40_mkM _ _ _ (⟨(⟨#[]⟩ : ByteArray), wrap64 (1 + g5)⟩ : S40) )) (Reps.none _ _)))))); intro x6 D3 h6 hb hg_ hnew_; clear hg_ hnew_; (first | rw [← Ny606.out] at h6 | (simp only [Int.reduceToNat] at h6; rw [← Ny606.out] at h6)); have a8 := aM (Kd.R_lower (Kd.R_new' h6 (Kd.R_lt (rS a2))) (keep_size (w := w) (g := g) (row := none) (kp HK))); replace a2 := aM (Kd.R_elder' (rS a2) (Kd.R_base h6) hb); replace HK := aM (KeepBut.trans (kp HK) (KeepBut.of_below hb g none) (.inl rfl)); replace HB := aM (below_step (bI HB (IsS74.ge HI0.out)) hb); replace HI0 := aM (IsS74.below (iS74 HI0) hb); clear hb h6; obtain ⟨m6, m7, s7⟩ := Kd.R_slice a8.out; subst s7) | ((with_reducible refine gate_builtin (b := .append) (xs := #[.tmp 57, .tmp 68]) rfl ?_); (try (refine gG (by rfl) (by rfl) ?_; dsimp only)); at_builtin; refine Kd.R_append_rows k40 w.heap.size rfl (.tmp 57) (.tmp 68) 71 40 (.agg #[(.string ⟨#[]⟩), (.int .i64 0)]) 24 rfl Try.underlying71 info40 rfl (by decide) (by omega) u3 a6 g6 _ _ _ (fun k_ => some k_ ≠ (.slice m6 g6.length m7 : Value).ownBlock) (fun _ => False) rfl rfl ?aO ?aR (fun _ _ h => h) (fun _ h => h.elim) ?aF (Below.refl _ _) ?aS ?aL ?_; (case aR => exact cS (Kd.R_reads' a8.out).2.2); (case aF => exact (fun k_ hk => Kd.fresh' (Kd.R_lt (rS a8)) k_ hk)); (case aO => exact (by exact rM a2)); (case aS => exact (keep_size (w := w) (g := g) (row := none) (kp HK))); (case aL => have := LMc29.out; (try dsimp only at this); omega); intro s8 D4 ho hb hg hat; rw [← Ny609.out] at ho; have b8 := aM (ho); replace a8 := aM (Kd.R_after (ok := (fun _ => True)) (rS a8) hg hat); replace HB := aM (below_weaken (bI HB (IsS74.ge HI0.out)) HL.out hb); replace HI0 := aM (IsS74.grown (show IsS74 w0 _ g a3 e6 e7 from iS74 HI0) hg (IsS74.own_ne HI0.out a2.out (by decide))); replace HK := aM (KeepBut.trans (kp HK) (KeepBut.of_grown hg g) (Kd.R_base2 a2.out)); clear a2; clear ho hb hg hat) | ((with_reducible refine gate_dst (N := 73) rfl ?_); (try (refine gG (by rfl) (by rfl) ?_; dsimp only)); refine Kd.R_lit Kd.string _ 9 ?hg (N := 73) ?hd (xs := ([(⟨#[102, 105, 108, 108]⟩ : ByteArray), (⟨#[102, 105, 108, 108]⟩ : ByteArray), (⟨#[102, 105, 108, 108]⟩ : ByteArray), (⟨#[99, 108, 105, 112]⟩ : ByteArray)] : List ByteArray)) (inner := [.string (⟨#[102, 105, 108, 108]⟩ : ByteArray), .string (⟨#[102, 105, 108, 108]⟩ : ByteArray), .string (⟨#[102, 105, 108, 108]⟩ : ByteArray), .string (⟨#[99, 108, 105, 112]⟩ : ByteArray)]) (ok := fun _ => True) (okp := fun _ => True) ?hr ?hp (fun _ hk => hk) trivial (Below.refl _ _) (Nat.le_refl _) (by simp) ?_; (case hd => rfl); (case hg => rfl); (case hr => first | (go_simp; done) | (go_simp; rfl)); (case hp => exact (Reps.one (show Kd.M Kd.string _ _ _ (⟨#[102, 105, 108, 108]⟩ : ByteArray) [.string (⟨#[102, 105, 108, 108]⟩ : ByteArray)] from rfl) (Reps.one (show Kd.M Kd.string _ _ _ (⟨#[102, 105, 108, 108]⟩ : ByteArray) [.string (⟨#[102, 105, 108, 108]⟩ : ByteArray)] from rfl) (Reps.one (show Kd.M Kd.string _ _ _ (⟨#[102, 105, 108, 108]⟩ : ByteArray) [.string (⟨#[102, 105, 108, 108]⟩ : ByteArray)] from rfl) (Reps.one (show Kd.M Kd.string _ _ _ (⟨#[99, 108, 105, 112]⟩ : ByteArray) [.string (⟨#[99, 108, 105, 112]⟩ : ByteArray)] from rfl) (Reps.none _ _)))))); intro x7 D5 i8 hb hg_ hnew_; clear hg_ hnew_; (first | rw [← Ny612.out] at i8 | (simp only [Int.reduceToNat] at i8; rw [← Ny612.out] at i8)); have d2 := aM (Kd.R_lower i8 (keep_size (w := w) (g := g) (row := none) (kp HK))); replace a8 := rB a8 hb; replace b8 := rB b8 hb; replace HK := aM (KeepBut.trans (kp HK) (KeepBut.of_below hb g none) (.inl rfl)); replace HB := aM (below_step (bI HB (IsS74.ge HI0.out)) hb); replace HI0 := aM (IsS74.below (iS74 HI0) hb); clear hb i8; obtain ⟨s9, t0, t1⟩ := Kd.R_slice d2.out; subst t1) | ((with_reducible refine gC 45 ?_); refine cL (some 74) Try.func45 #[.pointer (some ⟨g, 0, none⟩), .slice s9 m5.length t0] ?_; (with_reducible refine (spec_l01Pick.calls g a3 e6 e7 _ _ m5 g7 i6 i7 w0 _ ?side1 ?side2 ?side3 ?side4 ?side5 x5.out).mono ?_); (case side1 => exact iS74 HI0); (case side2 => exact bI HB (IsS74.ge HI0.out)); (case side3 => exact cS (Kd.R_reads' d2.out).2.2); (case side4 => exact (Kd.R_reads' d2.out).2.1); (case side5 => exact far_slice (IsS74.own_ne HI0.out d2.out (by decide))); rintro e D6 ⟨rfl, hi, hb, hk⟩; refine ⟨_, rfl, ?_⟩; replace a8 := aM (Kd.R_mono (Kd.R_keep (IsS74.apart (show IsS74 w0 _ g a3 e6 e7 from iS74 HI0) (rS a8) (by decide)) hk (fun _ h => h.2)) (fun _ h => h.1)); replace b8 := aM (Kd.R_mono (Kd.R_keep (IsS74.apart (show IsS74 w0 _ g a3 e6 e7 from iS74 HI0) (rS b8) (by decide)) hk (fun _ h => h.2)) (fun _ h => h.1)); replace d2 := aM (Kd.R_mono (Kd.R_keep (IsS74.apart (show IsS74 w0 _ g a3 e6 e7 from iS74 HI0) (rS d2) (by decide)) hk (fun _ h => h.2)) (fun _ h => h.1)); replace HK := aM (KeepBut.trans (kp HK) hk (.inl rfl)); replace HB := aM (hb); replace HI0 := aM (hi); (try clear hb hk hi)) | ((with_reducible refine gate_dst (N := 76) rfl ?_); (try (refine gG (by rfl) (by rfl) ?_; dsimp only)); refine Kd.R_lit k40 _ 40 ?hg (N := 76) ?hd (xs := ([(⟨(⟨#[114, 101, 99, 116]⟩ : ByteArray), 0⟩ : S40), (⟨g7, 0⟩ : S40)] : List (S40))) (inner := [.string (⟨#[114, 101, 99, 116]⟩ : ByteArray), .int .i64 0, .string g7, .int .i64 0]) (ok := fun _ => True) (okp := fun _ => True) ?hr ?hp (fun _ hk => hk) trivial (Below.refl _ _) (Nat.le_refl _) (by simp) ?_; (case hd => rfl); (case hg => rfl); (case hr => first | (go_simp; done) | (go_simp; rfl)); (case hp => exact (Reps.c2 (show Kd.M k40 _ _ _ (⟨(⟨#[114, 101, 99, 116]⟩ : ByteArray), 0⟩ : S40) [.string (⟨#[114, 101, 99, 116]⟩ : ByteArray), .int .i64 0] from (k40_mkM _ _ _ (⟨(⟨#[114, 101, 99, 116]⟩ : ByteArray), 0⟩ : S40) )) (Reps.c2 (show Kd.M k40 _ _ _ (⟨g7, 0⟩ : S40) [.string g7, .int .i64 0] from (k40_mkM _ _ _ (⟨g7, 0⟩ : S40) )) (Reps.none _ _)))); intro x8 D7 g8 hb hg_ hnew_; clear hg_ hnew_; (first | rw [← Ny618.out] at g8 | (simp only [Int.reduceToNat] at g8; rw [← Ny618.out] at g8)); have f5 := aM (Kd.R_lower (Kd.R_new' (Kd.R_new' g8 (Kd.R_lt (rS a8))) (Kd.R_lt (rS b8))) (keep_size (w := w) (g := g) (row := none) (kp HK))); replace a8 := aM (Kd.R_elder' (rS a8) (Kd.R_base g8) hb); replace b8 := aM (Kd.R_elder' (rS b8) (Kd.R_base g8) hb); replace d2 := rB d2 hb; replace HK := aM (KeepBut.trans (kp HK) (KeepBut.of_below hb g none) (.inl rfl)); replace HB := aM (below_step (bI HB (IsS74.ge HI0.out)) hb); replace HI0 := aM (IsS74.below (iS74 HI0) hb); clear hb g8; obtain ⟨o9, q0, t2⟩ := Kd.R_slice f5.out; subst t2) | ((with_reducible refine gate_builtin (b := .append) (xs := #[.tmp 70, .tmp 76]) rfl ?_); (try (refine gG (by rfl) (by rfl) ?_; dsimp only)); at_builtin; refine Kd.R_append_rows k40 w.heap.size rfl (.tmp 70) (.tmp 76) 71 40 (.agg #[(.string ⟨#[]⟩), (.int .i64 0)]) 24 rfl Try.underlying71 info40 rfl (by decide) (by omega) s8 e0 d3 _ _ _ (fun k_ => some k_ ≠ (.slice m6 g6.length m7 : Value).ownBlock ∧ some k_ ≠ (.slice o9 d3.length q0 : Value).ownBlock) (fun _ => False) rfl rfl ?aO ?aR (fun _ _ h => h) (fun _ h => h.elim) ?aF (Below.refl _ _) ?aS ?aL ?_; (case aR => exact cS (Kd.R_reads' f5.out).2.2); (case aF => exact (fun k_ hk => ⟨Kd.fresh' (Kd.R_lt (rS a8)) k_ hk, Kd.fresh' (Kd.R_lt (rS f5)) k_ hk⟩)); (case aO => exact (rS b8)); (case aS => exact (keep_size (w := w) (g := g) (row := none) (kp HK))); (case aL => have := LMc31.out; (try dsimp only at this); omega); intro x9 D8 ho hb hg hat; rw [← Ny621.out] at ho; have q2 := aM (ho); replace a8 := aM (Kd.R_after (ok := (fun k_ => some k_ ≠ (.slice o9 d3.length q0 : Value).ownBlock)) (by exact rM a8) hg hat); replace d2 := aM (Kd.R_over' (rS d2) (Kd.R_typed (rS b8)) (by decide) hg); replace f5 := aM (Kd.R_after (ok := (fun k_ => some k_ ≠ (.slice m6 g6.length m7 : Value).ownBlock)) (by exact rM f5) hg hat); replace HB := aM (below_weaken (bI HB (IsS74.ge HI0.out)) HL.out hb); replace HI0 := aM (IsS74.grown (show IsS74 w0 _ g a3 i6 i7 from iS74 HI0) hg (IsS74.own_ne HI0.out b8.out (by decide))); replace HK := aM (KeepBut.trans (kp HK) (KeepBut.of_grown hg g) (Kd.R_base2 b8.out)); clear b8; clear ho hb hg hat))
          go_roundg kj20
          case measure => have := f3.out; have := HJ3.out; have := HJ20.out; omega
          case rel => exact ⟨(o8), (wrap64 (a7 + 1)), (i6), (i7), fS, H', ⟨by have := f3.out; have := HJ3.out; have := HJ20.out; omega⟩, ⟨by exact rT (Kd.R_mono q2.out (fun _ hk => trivial))⟩, ⟨iS74 HI0⟩, ⟨kp HK⟩, ⟨bI HB (IsS74.ge HI0.out)⟩⟩
         ·obtain rfl := Bool.eq_false_iff.mpr c24
          rw [if_neg nF] at H
          have m8 := aM H
          clear H
          go_upto_if 78 with (fail)
          go_cut [78] (fun y0 wc => ∃ (kq : Nat) (e8 : Bool), y0 = .bool e8 ∧ Aside0 (spec_l07Tokens.j3 kq a6 a7 a5 e8 a3 b9 d0 = some (r1, r2, r3)) ∧ Aside0 (kq ≤ kj20) ∧ Aside0 (Kd.R k40 40 wc w.heap.size (fun _ => True) u3 a6) ∧ Aside0 (IsS74 w0 wc g a3 b9 d0) ∧ Aside0 (KeepBut w wc g none) ∧ Aside0 (Below w0.heap.size w0 wc))
          case first =>
           have H := m8.out
           clear m8
           by_cases l5 : a5 = 3
           ·rw [if_pos l5] at H
            have e1 : (a5 == 3) = true := beq_iff_eq.mpr l5
            have i9 : (a5 != 3) = false := bne_eq_false_iff_eq.mpr l5
            clear l5
            (first | rw [e1] | (simp only [i64_w, i32_w]; rw [e1]) | skip)
            have H' := aM H
            clear H
            go_wp2
            go_meet
            case rel => exact ⟨_, ((a5 == 3)), fS, H', ⟨by have := f3.out; have := HJ3.out; have := HJ20.out; first | omega | exact Nat.le_refl _⟩, ⟨rS a2⟩, ⟨iS74 HI0⟩, ⟨kp HK⟩, ⟨bI HB (IsS74.ge HI0.out)⟩⟩
           ·rw [if_neg l5] at H
            have e1 : (a5 == 3) = false := beq_eq_false_iff_ne.mpr l5
            have i9 : (a5 != 3) = true := bne_iff_ne.mpr l5
            (first | rw [e1] | (simp only [i64_w, i32_w]; rw [e1]) | skip)
            have H' := aM H
            clear H
            go_wp2
            go_meet
            case rel => exact ⟨_, ((a5 == 4)), fS, H', ⟨by have := f3.out; have := HJ3.out; have := HJ20.out; first | omega | exact Nat.le_refl _⟩, ⟨rS a2⟩, ⟨iS74 HI0⟩, ⟨kp HK⟩, ⟨bI HB (IsS74.ge HI0.out)⟩⟩
          case rest =>
           clear m8
           try clear c1
           try clear c2
           try clear p2
           try clear c3
           try clear c4
           try clear c6
           try clear e4
           try clear p6
           try clear c10
           try clear k4
           try clear h2
           try clear h3
           try clear u7
           try clear k6
           try clear d5
           try clear h4
           try clear c24
           try clear y1
           try clear y2
           try clear y3
           try clear y4
           try clear l5
           try clear e1
           try clear i9
           try clear p2
           try clear p6
           obtain ⟨kq, e8, rfl, HA, HJ47, a2, HI0, HK, HB⟩ := hcut
           cases kq with
           | zero => exact absurd HA.out (by simp [spec_l07Tokens.j3])
           | succ kj47 =>
            have H := HA.out
            clear HA
            simp only [spec_l07Tokens.j3] at H
            by_cases t3 : e8 = true
            ·subst t3
             rw [if_pos rfl] at H
             replace H := bN H
             obtain ⟨⟨j5, q3, q4⟩, y5, H⟩ := H
             have H' := aM H
             clear H
             go_wp2_with (first | ((with_reducible refine gC 44 ?_); refine cL (some 82) Try.func44 #[.pointer (some ⟨g, 0, none⟩), .int .i64 3] ?_; (with_reducible refine (spec_l01Below.calls g a3 b9 d0 3 j5 q3 q4 w0 _ ?side1 ?side2 y5.out).mono ?_); (case side1 => exact iS74 HI0); (case side2 => exact bI HB (IsS74.ge HI0.out)); rintro e D9 ⟨rfl, hi, hb, hk⟩; refine ⟨_, rfl, ?_⟩; replace a2 := aM (Kd.R_mono (Kd.R_keep (IsS74.apart (show IsS74 w0 _ g a3 b9 d0 from iS74 HI0) (rS a2) (by decide)) hk (fun _ h => h.2)) (fun _ h => h.1)); replace HK := aM (KeepBut.trans (kp HK) hk (.inl rfl)); replace HB := aM (hb); replace HI0 := aM (hi); (try clear hb hk hi)))
             go_loopg [3, 9] kj47 (fun kq v3 v9 w' => ∃ (e2 : List (S40)) (e9 : Int) (a9 : Int) (b0 : Int), v9 = .int .i64 e9 ∧ Aside0 (spec_l07Tokens.l1 kq e2 a7 (wrap64 (3 + j5)) e9 a3 a9 b0 = some (r1, r2, r3)) ∧ Aside0 (kq ≤ kj47) ∧ Aside0 (Kd.R k40 40 w' w.heap.size (fun _ => True) v3 e2) ∧ Aside0 (IsS74 w0 w' g a3 a9 b0) ∧ Aside0 (KeepBut w w' g none) ∧ Aside0 (Below w0.heap.size w0 w'))
             case atStart => exact ⟨(a6), (0), (q3), (q4), fS, H', ⟨Nat.le_refl _⟩, ⟨rS a2⟩, ⟨iS74 HI0⟩, ⟨kp HK⟩, ⟨bI HB (IsS74.ge HI0.out)⟩⟩
             case round =>
              clear H'
              try clear c1
              try clear c2
              try clear p2
              try clear c3
              try clear c4
              try clear c5
              try clear c6
              try clear e4
              try clear p6
              try clear c10
              try clear k4
              try clear h2
              try clear h3
              try clear u7
              try clear k6
              try clear d5
              try clear h4
              try clear c24
              try clear y1
              try clear y2
              try clear y3
              try clear y4
              try clear l5
              try clear e1
              try clear i9
              try clear t3
              try clear p2
              try clear p6
              obtain ⟨e2, e9, a9, b0, rfl, HA, s1, a2, HI0, HK, HB⟩ := hrel
              cases gk with
              | zero => exact absurd HA.out (by simp [spec_l07Tokens.l1])
              | succ k5 =>
               have H := HA.out
               clear HA
               simp only [spec_l07Tokens.l1] at H
               rcases iD H with ⟨q5, H⟩ | ⟨q5, H⟩
               ·replace H := bN H
                obtain ⟨⟨f6, m9, n0⟩, y6, H⟩ := H
                replace H := bN H
                obtain ⟨⟨f7, h7, h8⟩, y7, H⟩ := H
                obtain ⟨f0, hy_⟩ : ∃ y_ : List ByteArray, y_ = (([(⟨#[108, 105, 110, 101, 116, 111]⟩ : ByteArray), (⟨#[109, 111, 118, 101, 116, 111]⟩ : ByteArray)] : List ByteArray)) := ⟨_, rfl⟩
                replace H : ((spec_l06First.f e9).bind fun d4 => (if 0 ≤ d4 then (if d4 < (f0.length : Int) then ((some (([(⟨(⟨#[]⟩ : ByteArray), f6⟩ : S40), (⟨(⟨#[]⟩ : ByteArray), f7⟩ : S40), (⟨rdOf ByteArray.empty f0 d4, 0⟩ : S40)] : List (S40)) : List (S40))).bind fun f8 => (if e2.length + f8.length < 5864062014805 then (spec_l07Tokens.l1 k5 (e2 ++ f8) a7 (wrap64 (3 + j5)) (wrap64 (e9 + 1)) a3 h7 h8) else (none))) else (none)) else (none))) = some (r1, r2, r3) := yS
                have Ny633 := aM hy_
                clear hy_
                replace H := bN H
                obtain ⟨d4, y8, H⟩ := H
                obtain ⟨u9, H⟩ := iT H
                obtain ⟨v0, H⟩ := iT H
                obtain ⟨f8, hy_⟩ : ∃ y_ : List (S40), y_ = (([(⟨(⟨#[]⟩ : ByteArray), f6⟩ : S40), (⟨(⟨#[]⟩ : ByteArray), f7⟩ : S40), (⟨rdOf ByteArray.empty f0 d4, 0⟩ : S40)] : List (S40))) := ⟨_, rfl⟩
                replace H : (if e2.length + f8.length < 5864062014805 then (spec_l07Tokens.l1 k5 (e2 ++ f8) a7 (wrap64 (3 + j5)) (wrap64 (e9 + 1)) a3 h7 h8) else (none)) = some (r1, r2, r3) := yS
                have Ny638 := aM hy_
                clear hy_
                obtain ⟨LMc59, H⟩ := iL H
                obtain ⟨q6, hy_⟩ : ∃ y_ : List (S40), y_ = (e2 ++ f8) := ⟨_, rfl⟩
                replace H : (spec_l07Tokens.l1 k5 q6 a7 (wrap64 (3 + j5)) (wrap64 (e9 + 1)) a3 h7 h8) = some (r1, r2, r3) := yS
                have Ny641 := aM hy_
                clear hy_
                have H' := aM H
                clear H
                go_wp2_with (first | ((with_reducible refine gC 44 ?_); refine cL (some 90) Try.func44 #[.pointer (some ⟨g, 0, none⟩), .int .i64 33] ?_; (with_reducible refine (spec_l01Below.calls g a3 a9 b0 33 f6 m9 n0 w0 _ ?side1 ?side2 y6.out).mono ?_); (case side1 => exact iS74 HI0); (case side2 => exact bI HB (IsS74.ge HI0.out)); rintro e E0 ⟨rfl, hi, hb, hk⟩; refine ⟨_, rfl, ?_⟩; replace a2 := aM (Kd.R_mono (Kd.R_keep (IsS74.apart (show IsS74 w0 _ g a3 a9 b0 from iS74 HI0) (rS a2) (by decide)) hk (fun _ h => h.2)) (fun _ h => h.1)); replace HK := aM (KeepBut.trans (kp HK) hk (.inl rfl)); replace HB := aM (hb); replace HI0 := aM (hi); (try clear hb hk hi)) | ((with_reducible refine gC 44 ?_); refine cL (some 95) Try.func44 #[.pointer (some ⟨g, 0, none⟩), .int .i64 33] ?_; (with_reducible refine (spec_l01Below.calls g a3 m9 n0 33 f7 h7 h8 w0 _ ?side1 ?side2 y7.out).mono ?_); (case side1 => exact iS74 HI0); (case side2 => exact bI HB (IsS74.ge HI0.out)); rintro e E1 ⟨rfl, hi, hb, hk⟩; refine ⟨_, rfl, ?_⟩; replace a2 := aM (Kd.R_mono (Kd.R_keep (IsS74.apart (show IsS74 w0 _ g a3 m9 n0 from iS74 HI0) (rS a2) (by decide)) hk (fun _ h => h.2)) (fun _ h => h.1)); replace HK := aM (KeepBut.trans (kp HK) hk (.inl rfl)); replace HB := aM (hb); replace HI0 := aM (hi); (try clear hb hk hi)) | ((with_reducible refine gate_dst (N := 97) rfl ?_); (try (refine gG (by rfl) (by rfl) ?_; dsimp only)); refine Kd.R_lit Kd.string _ 9 ?hg (N := 97) ?hd (xs := ([(⟨#[108, 105, 110, 101, 116, 111]⟩ : ByteArray), (⟨#[109, 111, 118, 101, 116, 111]⟩ : ByteArray)] : List ByteArray)) (inner := [.string (⟨#[108, 105, 110, 101, 116, 111]⟩ : ByteArray), .string (⟨#[109, 111, 118, 101, 116, 111]⟩ : ByteArray)]) (ok := fun _ => True) (okp := fun _ => True) ?hr ?hp (fun _ hk => hk) trivial (Below.refl _ _) (Nat.le_refl _) (by simp) ?_; (case hd => rfl); (case hg => rfl); (case hr => first | (go_simp; done) | (go_simp; rfl)); (case hp => exact (Reps.one (show Kd.M Kd.string _ _ _ (⟨#[108, 105, 110, 101, 116, 111]⟩ : ByteArray) [.string (⟨#[108, 105, 110, 101, 116, 111]⟩ : ByteArray)] from rfl) (Reps.one (show Kd.M Kd.string _ _ _ (⟨#[109, 111, 118, 101, 116, 111]⟩ : ByteArray) [.string (⟨#[109, 111, 118, 101, 116, 111]⟩ : ByteArray)] from rfl) (Reps.none _ _)))); intro y9 E2 j6 hb hg_ hnew_; clear hg_ hnew_; (first | rw [← Ny633.out] at j6 | (simp only [Int.reduceToNat] at j6; rw [← Ny633.out] at j6)); have e3 := aM (Kd.R_lower j6 (keep_size (w := w) (g := g) (row := none) (kp HK))); replace a2 := rB a2 hb; replace HK := aM (KeepBut.trans (kp HK) (KeepBut.of_below hb g none) (.inl rfl)); replace HB := aM (below_step (bI HB (IsS74.ge HI0.out)) hb); replace HI0 := aM (IsS74.below (iS74 HI0) hb); clear hb j6) | ((with_reducible refine gC 46 ?_); refine cM (some 99) Try.func46 (spec_l06First.calls e9 d4 _ y8.out) ?_; rintro e w' ⟨rfl, ⟨nd, rfl⟩⟩; refine ⟨_, rfl, ?_⟩; obtain ⟨A0, A1, t4⟩ := Kd.R_slice e3.out; subst t4; have n1 : 0 ≤ (d4 : Int) := dA; have n2 : d4 < (f0.length : Int) := dA; obtain ⟨v1, t5, s2⟩ := Kd.at_string (Kd.R_reads' e3.out).2.2 d4 n1 n2; cases t5; replace n1 := eq_true n1; replace n2 := eq_true n2) | ((with_reducible refine gate_dst (N := 103) rfl ?_); (try (refine gG (by rfl) (by rfl) ?_; dsimp only)); refine Kd.R_lit k40 _ 40 ?hg (N := 103) ?hd (xs := ([(⟨(⟨#[]⟩ : ByteArray), f6⟩ : S40), (⟨(⟨#[]⟩ : ByteArray), f7⟩ : S40), (⟨rdOf ByteArray.empty f0 d4, 0⟩ : S40)] : List (S40))) (inner := [.string (⟨#[]⟩ : ByteArray), .int .i64 f6, .string (⟨#[]⟩ : ByteArray), .int .i64 f7, .string (rdOf ByteArray.empty f0 d4), .int .i64 0]) (ok := fun _ => True) (okp := fun _ => True) ?hr ?hp (fun _ hk => hk) trivial (Below.refl _ _) (Nat.le_refl _) (by simp) ?_; (case hd => rfl); (case hg => rfl); (case hr => first | (go_simp; done) | (go_simp; rfl)); (case hp => exact (Reps.c2 (show Kd.M k40 _ _ _ (⟨(⟨#[]⟩ : ByteArray), f6⟩ : S40) [.string (⟨#[]⟩ : ByteArray), .int .i64 f6] from (k40_mkM _ _ _ (⟨(⟨#[]⟩ : ByteArray), f6⟩ : S40) )) (Reps.c2 (show Kd.M k40 _ _ _ (⟨(⟨#[]⟩ : ByteArray), f7⟩ : S40) [.string (⟨#[]⟩ : ByteArray), .int .i64 f7] from (k40_mkM _ _ _ (⟨(⟨#[]⟩ : ByteArray), f7⟩ : S40) )) (Reps.c2 (show Kd.M k40 _ _ _ (⟨rdOf ByteArray.empty f0 d4, 0⟩ : S40) [.string (rdOf ByteArray.empty f0 d4), .int .i64 0] from (k40_mkM _ _ _ (⟨rdOf ByteArray.empty f0 d4, 0⟩ : S40) )) (Reps.none _ _))))); intro A2 E3 h9 hb hg_ hnew_; clear hg_ hnew_; (first | rw [← Ny638.out] at h9 | (simp only [Int.reduceToNat] at h9; rw [← Ny638.out] at h9)); have f9 := aM (Kd.R_lower (Kd.R_new' h9 (Kd.R_lt (rS a2))) (keep_size (w := w) (g := g) (row := none) (kp HK))); replace a2 := aM (Kd.R_elder' (rS a2) (Kd.R_base h9) hb); replace e3 := rB e3 hb; replace HK := aM (KeepBut.trans (kp HK) (KeepBut.of_below hb g none) (.inl rfl)); replace HB := aM (below_step (bI HB (IsS74.ge HI0.out)) hb); replace HI0 := aM (IsS74.below (iS74 HI0) hb); clear hb h9; obtain ⟨t6, t7, t8⟩ := Kd.R_slice f9.out; subst t8) | ((with_reducible refine gate_builtin (b := .append) (xs := #[.tmp 91, .tmp 103]) rfl ?_); (try (refine gG (by rfl) (by rfl) ?_; dsimp only)); at_builtin; refine Kd.R_append_rows k40 w.heap.size rfl (.tmp 91) (.tmp 103) 71 40 (.agg #[(.string ⟨#[]⟩), (.int .i64 0)]) 24 rfl Try.underlying71 info40 rfl (by decide) (by omega) u3 e2 f8 _ _ _ (fun k_ => some k_ ≠ (.slice t6 f8.length t7 : Value).ownBlock) (fun _ => False) rfl rfl ?aO ?aR (fun _ _ h => h) (fun _ h => h.elim) ?aF (Below.refl _ _) ?aS ?aL ?_; (case aR => exact cS (Kd.R_reads' f9.out).2.2); (case aF => exact (fun k_ hk => Kd.fresh' (Kd.R_lt (rS f9)) k_ hk)); (case aO => exact (by exact rM a2)); (case aS => exact (keep_size (w := w) (g := g) (row := none) (kp HK))); (case aL => have := LMc59.out; (try dsimp only at this); omega); intro A3 E4 ho hb hg hat; rw [← Ny641.out] at ho; have q7 := aM (ho); replace e3 := aM (Kd.R_over' (rS e3) (Kd.R_typed (rS a2)) (by decide) hg); replace f9 := aM (Kd.R_after (ok := (fun _ => True)) (rS f9) hg hat); replace HB := aM (below_weaken (bI HB (IsS74.ge HI0.out)) HL.out hb); replace HI0 := aM (IsS74.grown (show IsS74 w0 _ g a3 h7 h8 from iS74 HI0) hg (IsS74.own_ne HI0.out a2.out (by decide))); replace HK := aM (KeepBut.trans (kp HK) (KeepBut.of_grown hg g) (Kd.R_base2 a2.out)); clear a2; clear ho hb hg hat))
                go_roundg k5
                case measure => have := f3.out; have := HJ3.out; have := HJ20.out; have := HJ47.out; have := s1.out; omega
                case rel => exact ⟨(q6), (wrap64 (e9 + 1)), (h7), (h8), fS, H', ⟨by have := f3.out; have := HJ3.out; have := HJ20.out; have := HJ47.out; have := s1.out; omega⟩, ⟨by exact rT (Kd.R_mono q7.out (fun _ hk => trivial))⟩, ⟨iS74 HI0⟩, ⟨kp HK⟩, ⟨bI HB (IsS74.ge HI0.out)⟩⟩
               ·obtain ⟨LMc69, H⟩ := iL H
                obtain ⟨q8, hy_⟩ : ∃ y_ : List (S40), y_ = (e2 ++ [(⟨(⟨#[102, 105, 108, 108]⟩ : ByteArray), 0⟩ : S40)]) := ⟨_, rfl⟩
                replace H : (spec_l07Tokens.l0 k5 q8 (wrap64 (a7 + 1)) a3 a9 b0) = some (r1, r2, r3) := yS
                have Ny644 := aM hy_
                clear hy_
                have H' := aM H
                clear H
                go_wp2_with (first | ((with_reducible refine gate_builtin (b := .append) (xs := #[.tmp 105, .tmp 107]) rfl ?_); (try (refine gG (by rfl) (by rfl) ?_; dsimp only)); at_builtin; refine Kd.R_append k40 w.heap.size rfl (.tmp 105) (.tmp 107) 71 40 (.agg #[(.string ⟨#[]⟩), (.int .i64 0)]) 24 rfl Try.underlying71 info40 rfl (by decide) (by omega) u3 e2 (⟨(⟨#[102, 105, 108, 108]⟩ : ByteArray), 0⟩ : S40) [.string (⟨#[102, 105, 108, 108]⟩ : ByteArray), .int .i64 0] (fun _ => True) (fun _ => False) rfl rfl ?aP (fun _ hk => hk.elim) ?aF ?aO (Below.refl _ _) ?aS ?aL ?_; (case aP => exact k40_mkM _ _ _ (⟨(⟨#[102, 105, 108, 108]⟩ : ByteArray), 0⟩ : S40)); (case aF => exact (fun _ _ => trivial)); (case aO => exact (rS a2)); (case aS => exact (keep_size (w := w) (g := g) (row := none) (kp HK))); (case aL => have := LMc69.out; (try dsimp only at this); omega); intro A4 E5 ho hb hg hat; rw [← Ny644.out] at ho; have q9 := aM (ho); replace HB := aM (below_weaken (bI HB (IsS74.ge HI0.out)) HL.out hb); replace HI0 := aM (IsS74.grown (show IsS74 w0 _ g a3 a9 b0 from iS74 HI0) hg (IsS74.own_ne HI0.out a2.out (by decide))); replace HK := aM (KeepBut.trans (kp HK) (KeepBut.of_grown hg g) (Kd.R_base2 a2.out)); clear a2; clear ho hb hg hat))
                go_roundg k5
                case measure => have := f3.out; have := HJ3.out; have := HJ20.out; have := HJ47.out; have := s1.out; omega
                case rel => exact ⟨(q8), (wrap64 (a7 + 1)), (a9), (b0), fS, H', ⟨by have := f3.out; have := HJ3.out; have := HJ20.out; have := HJ47.out; have := s1.out; omega⟩, ⟨rS q9⟩, ⟨iS74 HI0⟩, ⟨kp HK⟩, ⟨bI HB (IsS74.ge HI0.out)⟩⟩
            ·obtain rfl := Bool.eq_false_iff.mpr t3
             rw [if_neg nF] at H
             by_cases n5 : a5 = 5
             ·rw [if_pos n5] at H
              have r0 : (a5 == 5) = true := beq_iff_eq.mpr n5
              have r4 : (a5 != 5) = false := bne_eq_false_iff_eq.mpr n5
              clear n5
              obtain ⟨n6, hy_⟩ : ∃ y_ : List ByteArray, y_ = (([(⟨#[115, 97, 118, 101]⟩ : ByteArray), (⟨#[114, 101, 115, 116, 111, 114, 101]⟩ : ByteArray), (⟨#[110, 101, 119]⟩ : ByteArray)] : List ByteArray)) := ⟨_, rfl⟩
              replace H : ((spec_l01Pick.f a3 b9 d0 n6).bind fun j7 => (if a6.length < 5864062014805 then (spec_l07Tokens.l0 kj47 (a6 ++ [(⟨j7.1, 0⟩ : S40)]) (wrap64 (a7 + 1)) a3 j7.2.1 j7.2.2) else (none))) = some (r1, r2, r3) := yS
              have Ny647 := aM hy_
              clear hy_
              replace H := bN H
              obtain ⟨⟨j8, l6, l7⟩, A6, H⟩ := H
              obtain ⟨LMc73, H⟩ := iL H
              obtain ⟨r5, hy_⟩ : ∃ y_ : List (S40), y_ = (a6 ++ [(⟨j8, 0⟩ : S40)]) := ⟨_, rfl⟩
              replace H : (spec_l07Tokens.l0 kj47 r5 (wrap64 (a7 + 1)) a3 l6 l7) = some (r1, r2, r3) := yS
              have Ny653 := aM hy_
              clear hy_
              have H' := aM H
              clear H
              go_wp2_with (first | ((with_reducible refine gate_dst (N := 113) rfl ?_); (try (refine gG (by rfl) (by rfl) ?_; dsimp only)); refine Kd.R_lit Kd.string _ 9 ?hg (N := 113) ?hd (xs := ([(⟨#[115, 97, 118, 101]⟩ : ByteArray), (⟨#[114, 101, 115, 116, 111, 114, 101]⟩ : ByteArray), (⟨#[110, 101, 119]⟩ : ByteArray)] : List ByteArray)) (inner := [.string (⟨#[115, 97, 118, 101]⟩ : ByteArray), .string (⟨#[114, 101, 115, 116, 111, 114, 101]⟩ : ByteArray), .string (⟨#[110, 101, 119]⟩ : ByteArray)]) (ok := fun _ => True) (okp := fun _ => True) ?hr ?hp (fun _ hk => hk) trivial (Below.refl _ _) (Nat.le_refl _) (by simp) ?_; (case hd => rfl); (case hg => rfl); (case hr => first | (go_simp; done) | (go_simp; rfl)); (case hp => exact (Reps.one (show Kd.M Kd.string _ _ _ (⟨#[115, 97, 118, 101]⟩ : ByteArray) [.string (⟨#[115, 97, 118, 101]⟩ : ByteArray)] from rfl) (Reps.one (show Kd.M Kd.string _ _ _ (⟨#[114, 101, 115, 116, 111, 114, 101]⟩ : ByteArray) [.string (⟨#[114, 101, 115, 116, 111, 114, 101]⟩ : ByteArray)] from rfl) (Reps.one (show Kd.M Kd.string _ _ _ (⟨#[110, 101, 119]⟩ : ByteArray) [.string (⟨#[110, 101, 119]⟩ : ByteArray)] from rfl) (Reps.none _ _))))); intro A7 E6 j9 hb hg_ hnew_; clear hg_ hnew_; (first | rw [← Ny647.out] at j9 | (simp only [Int.reduceToNat] at j9; rw [← Ny647.out] at j9)); have d6 := aM (Kd.R_lower j9 (keep_size (w := w) (g := g) (row := none) (kp HK))); replace a2 := rB a2 hb; replace HK := aM (KeepBut.trans (kp HK) (KeepBut.of_below hb g none) (.inl rfl)); replace HB := aM (below_step (bI HB (IsS74.ge HI0.out)) hb); replace HI0 := aM (IsS74.below (iS74 HI0) hb); clear hb j9; obtain ⟨t9, u0, u1⟩ := Kd.R_slice d6.out; subst u1) | ((with_reducible refine gC 45 ?_); refine cL (some 114) Try.func45 #[.pointer (some ⟨g, 0, none⟩), .slice t9 n6.length u0] ?_; (with_reducible refine (spec_l01Pick.calls g a3 b9 d0 _ _ n6 j8 l6 l7 w0 _ ?side1 ?side2 ?side3 ?side4 ?side5 A6.out).mono ?_); (case side1 => exact iS74 HI0); (case side2 => exact bI HB (IsS74.ge HI0.out)); (case side3 => exact cS (Kd.R_reads' d6.out).2.2); (case side4 => exact (Kd.R_reads' d6.out).2.1); (case side5 => exact far_slice (IsS74.own_ne HI0.out d6.out (by decide))); rintro e E7 ⟨rfl, hi, hb, hk⟩; refine ⟨_, rfl, ?_⟩; replace a2 := aM (Kd.R_mono (Kd.R_keep (IsS74.apart (show IsS74 w0 _ g a3 b9 d0 from iS74 HI0) (rS a2) (by decide)) hk (fun _ h => h.2)) (fun _ h => h.1)); replace d6 := aM (Kd.R_mono (Kd.R_keep (IsS74.apart (show IsS74 w0 _ g a3 b9 d0 from iS74 HI0) (rS d6) (by decide)) hk (fun _ h => h.2)) (fun _ h => h.1)); replace HK := aM (KeepBut.trans (kp HK) hk (.inl rfl)); replace HB := aM (hb); replace HI0 := aM (hi); (try clear hb hk hi)) | ((with_reducible refine gate_builtin (b := .append) (xs := #[.tmp 111, .tmp 116]) rfl ?_); (try (refine gG (by rfl) (by rfl) ?_; dsimp only)); at_builtin; refine Kd.R_append k40 w.heap.size rfl (.tmp 111) (.tmp 116) 71 40 (.agg #[(.string ⟨#[]⟩), (.int .i64 0)]) 24 rfl Try.underlying71 info40 rfl (by decide) (by omega) u3 a6 (⟨j8, 0⟩ : S40) [.string j8, .int .i64 0] (fun _ => True) (fun _ => False) rfl rfl ?aP (fun _ hk => hk.elim) ?aF ?aO (Below.refl _ _) ?aS ?aL ?_; (case aP => exact k40_mkM _ _ _ (⟨j8, 0⟩ : S40)); (case aF => exact (fun _ _ => trivial)); (case aO => exact (rS a2)); (case aS => exact (keep_size (w := w) (g := g) (row := none) (kp HK))); (case aL => have := LMc73.out; (try dsimp only at this); omega); intro A8 E8 ho hb hg hat; rw [← Ny653.out] at ho; have r6 := aM (ho); replace d6 := aM (Kd.R_over' (rS d6) (Kd.R_typed (rS a2)) (by decide) hg); replace HB := aM (below_weaken (bI HB (IsS74.ge HI0.out)) HL.out hb); replace HI0 := aM (IsS74.grown (show IsS74 w0 _ g a3 l6 l7 from iS74 HI0) hg (IsS74.own_ne HI0.out a2.out (by decide))); replace HK := aM (KeepBut.trans (kp HK) (KeepBut.of_grown hg g) (Kd.R_base2 a2.out)); clear a2; clear ho hb hg hat))
              go_roundg kj47
              case measure => have := f3.out; have := HJ3.out; have := HJ20.out; have := HJ47.out; omega
              case rel => exact ⟨(r5), (wrap64 (a7 + 1)), (l6), (l7), fS, H', ⟨by have := f3.out; have := HJ3.out; have := HJ20.out; have := HJ47.out; omega⟩, ⟨rS r6⟩, ⟨iS74 HI0⟩, ⟨kp HK⟩, ⟨bI HB (IsS74.ge HI0.out)⟩⟩
             ·rw [if_neg n5] at H
              have r0 : (a5 == 5) = false := beq_eq_false_iff_ne.mpr n5
              have r4 : (a5 != 5) = true := bne_iff_ne.mpr n5
              replace H := bN H
              obtain ⟨⟨g9, n7, n8⟩, A9, H⟩ := H
              replace H := bN H
              obtain ⟨⟨h0, k0, k2⟩, B0, H⟩ := H
              obtain ⟨k3, hy_⟩ : ∃ y_ : List (S40), y_ = (([(⟨(⟨#[]⟩ : ByteArray), g9⟩ : S40), (⟨(⟨#[]⟩ : ByteArray), h0⟩ : S40), (⟨(⟨#[115, 104, 105, 102, 116]⟩ : ByteArray), 0⟩ : S40)] : List (S40))) := ⟨_, rfl⟩
              replace H : (if a6.length + k3.length < 5864062014805 then (spec_l07Tokens.l0 kj47 (a6 ++ k3) (wrap64 (a7 + 1)) a3 k0 k2) else (none)) = some (r1, r2, r3) := yS
              have Ny662 := aM hy_
              clear hy_
              obtain ⟨LMc81, H⟩ := iL H
              obtain ⟨r7, hy_⟩ : ∃ y_ : List (S40), y_ = (a6 ++ k3) := ⟨_, rfl⟩
              replace H : (spec_l07Tokens.l0 kj47 r7 (wrap64 (a7 + 1)) a3 k0 k2) = some (r1, r2, r3) := yS
              have Ny665 := aM hy_
              clear hy_
              have H' := aM H
              clear H
              go_wp2_with (first | ((with_reducible refine gC 44 ?_); refine cL (some 28) Try.func44 #[.pointer (some ⟨g, 0, none⟩), .int .i64 5] ?_; (with_reducible refine (spec_l01Below.calls g a3 b9 d0 5 g9 n7 n8 w0 _ ?side1 ?side2 A9.out).mono ?_); (case side1 => exact iS74 HI0); (case side2 => exact bI HB (IsS74.ge HI0.out)); rintro e E9 ⟨rfl, hi, hb, hk⟩; refine ⟨_, rfl, ?_⟩; replace a2 := aM (Kd.R_mono (Kd.R_keep (IsS74.apart (show IsS74 w0 _ g a3 b9 d0 from iS74 HI0) (rS a2) (by decide)) hk (fun _ h => h.2)) (fun _ h => h.1)); replace HK := aM (KeepBut.trans (kp HK) hk (.inl rfl)); replace HB := aM (hb); replace HI0 := aM (hi); (try clear hb hk hi)) | ((with_reducible refine gC 44 ?_); refine cL (some 33) Try.func44 #[.pointer (some ⟨g, 0, none⟩), .int .i64 5] ?_; (with_reducible refine (spec_l01Below.calls g a3 n7 n8 5 h0 k0 k2 w0 _ ?side1 ?side2 B0.out).mono ?_); (case side1 => exact iS74 HI0); (case side2 => exact bI HB (IsS74.ge HI0.out)); rintro e F2 ⟨rfl, hi, hb, hk⟩; refine ⟨_, rfl, ?_⟩; replace a2 := aM (Kd.R_mono (Kd.R_keep (IsS74.apart (show IsS74 w0 _ g a3 n7 n8 from iS74 HI0) (rS a2) (by decide)) hk (fun _ h => h.2)) (fun _ h => h.1)); replace HK := aM (KeepBut.trans (kp HK) hk (.inl rfl)); replace HB := aM (hb); replace HI0 := aM (hi); (try clear hb hk hi)) | ((with_reducible refine gate_dst (N := 36) rfl ?_); (try (refine gG (by rfl) (by rfl) ?_; dsimp only)); refine Kd.R_lit k40 _ 40 ?hg (N := 36) ?hd (xs := ([(⟨(⟨#[]⟩ : ByteArray), g9⟩ : S40), (⟨(⟨#[]⟩ : ByteArray), h0⟩ : S40), (⟨(⟨#[115, 104, 105, 102, 116]⟩ : ByteArray), 0⟩ : S40)] : List (S40))) (inner := [.string (⟨#[]⟩ : ByteArray), .int .i64 g9, .string (⟨#[]⟩ : ByteArray), .int .i64 h0, .string (⟨#[115, 104, 105, 102, 116]⟩ : ByteArray), .int .i64 0]) (ok := fun _ => True) (okp := fun _ => True) ?hr ?hp (fun _ hk => hk) trivial (Below.refl _ _) (Nat.le_refl _) (by simp) ?_; (case hd => rfl); (case hg => rfl); (case hr => first | (go_simp; done) | (go_simp; rfl)); (case hp => exact (Reps.c2 (show Kd.M k40 _ _ _ (⟨(⟨#[]⟩ : ByteArray), g9⟩ : S40) [.string (⟨#[]⟩ : ByteArray), .int .i64 g9] from (k40_mkM _ _ _ (⟨(⟨#[]⟩ : ByteArray), g9⟩ : S40) )) (Reps.c2 (show Kd.M k40 _ _ _ (⟨(⟨#[]⟩ : ByteArray), h0⟩ : S40) [.string (⟨#[]⟩ : ByteArray), .int .i64 h0] from (k40_mkM _ _ _ (⟨(⟨#[]⟩ : ByteArray), h0⟩ : S40) )) (Reps.c2 (show Kd.M k40 _ _ _ (⟨(⟨#[115, 104, 105, 102, 116]⟩ : ByteArray), 0⟩ : S40) [.string (⟨#[115, 104, 105, 102, 116]⟩ : ByteArray), .int .i64 0] from (k40_mkM _ _ _ (⟨(⟨#[115, 104, 105, 102, 116]⟩ : ByteArray), 0⟩ : S40) )) (Reps.none _ _))))); intro B2 F3 i1 hb hg_ hnew_; clear hg_ hnew_; (first | rw [← Ny662.out] at i1 | (simp only [Int.reduceToNat] at i1; rw [← Ny662.out] at i1)); have g0 := aM (Kd.R_lower (Kd.R_new' i1 (Kd.R_lt (rS a2))) (keep_size (w := w) (g := g) (row := none) (kp HK))); replace a2 := aM (Kd.R_elder' (rS a2) (Kd.R_base i1) hb); replace HK := aM (KeepBut.trans (kp HK) (KeepBut.of_below hb g none) (.inl rfl)); replace HB := aM (below_step (bI HB (IsS74.ge HI0.out)) hb); replace HI0 := aM (IsS74.below (iS74 HI0) hb); clear hb i1; obtain ⟨u2, u4, u5⟩ := Kd.R_slice g0.out; subst u5) | ((with_reducible refine gate_builtin (b := .append) (xs := #[.tmp 29, .tmp 36]) rfl ?_); (try (refine gG (by rfl) (by rfl) ?_; dsimp only)); at_builtin; refine Kd.R_append_rows k40 w.heap.size rfl (.tmp 29) (.tmp 36) 71 40 (.agg #[(.string ⟨#[]⟩), (.int .i64 0)]) 24 rfl Try.underlying71 info40 rfl (by decide) (by omega) u3 a6 k3 _ _ _ (fun k_ => some k_ ≠ (.slice u2 k3.length u4 : Value).ownBlock) (fun _ => False) rfl rfl ?aO ?aR (fun _ _ h => h) (fun _ h => h.elim) ?aF (Below.refl _ _) ?aS ?aL ?_; (case aR => exact cS (Kd.R_reads' g0.out).2.2); (case aF => exact (fun k_ hk => Kd.fresh' (Kd.R_lt (rS g0)) k_ hk)); (case aO => exact (by exact rM a2)); (case aS => exact (keep_size (w := w) (g := g) (row := none) (kp HK))); (case aL => have := LMc81.out; (try dsimp only at this); omega); intro B8 F4 ho hb hg hat; rw [← Ny665.out] at ho; have s0 := aM (ho); replace g0 := aM (Kd.R_after (ok := (fun _ => True)) (rS g0) hg hat); replace HB := aM (below_weaken (bI HB (IsS74.ge HI0.out)) HL.out hb); replace HI0 := aM (IsS74.grown (show IsS74 w0 _ g a3 k0 k2 from iS74 HI0) hg (IsS74.own_ne HI0.out a2.out (by decide))); replace HK := aM (KeepBut.trans (kp HK) (KeepBut.of_grown hg g) (Kd.R_base2 a2.out)); clear a2; clear ho hb hg hat))
              go_roundg kj47
              case measure => have := f3.out; have := HJ3.out; have := HJ20.out; have := HJ47.out; omega
              case rel => exact ⟨(r7), (wrap64 (a7 + 1)), (k0), (k2), fS, H', ⟨by have := f3.out; have := HJ3.out; have := HJ20.out; have := HJ47.out; omega⟩, ⟨by exact rT (Kd.R_mono s0.out (fun _ hk => trivial))⟩, ⟨iS74 HI0⟩, ⟨kp HK⟩, ⟨bI HB (IsS74.ge HI0.out)⟩⟩
     ·obtain rfl := Bool.eq_false_iff.mpr c10
      rw [if_neg nF] at H
      obtain ⟨rfl, rfl, rfl⟩ := sI3 H
      go_wp2
      go_ret
      exact ⟨_, eS, rS a2, iS74 HI0, bI HB (IsS74.ge HI0.out), by repeat (first | (with_reducible first | exact HK.out | apply KeepBut.set_ | apply keep_drewN | apply keep_drew | apply keep_alloc) | exact HK.out)⟩

/-! ### spec_l07Page: function 10 -/
def spec_l07Page.f (k : Nat) (a5 : List Int) (a6 : Int) (a7 : Int) : Option (List Int × Int × Int × Int × Int × (List (S80)) × Int × Int × Int × Int × Int × (List (S31)) × (List (S60)) × Int × Int) := (spec_l07Tokens.f k a5 a6 a7).bind fun a3 => ((spec_RunPage.f k a3.1).bind fun a2 => (some (a2.1, a2.2.1, a2.2.2.1, a2.2.2.2.1, a2.2.2.2.2.1, a2.2.2.2.2.2.1, a2.2.2.2.2.2.2.1, a2.2.2.2.2.2.2.2.1, a2.2.2.2.2.2.2.2.2.1, a2.2.2.2.2.2.2.2.2.2.1, a2.2.2.2.2.2.2.2.2.2.2.1, a2.2.2.2.2.2.2.2.2.2.2.2.1, a2.2.2.2.2.2.2.2.2.2.2.2.2.1, a3.2.1, a3.2.2)))
theorem spec_l07Page.calls (k : Nat) (g : Nat) (a7 : List Int) (d1 : Int) (d2 : Int) (r1 : List Int) (r2 : Int) (r3 : Int) (r4 : Int) (r5 : Int) (r6 : List (S80)) (r7 : Int) (r8 : Int) (r9 : Int) (g8 : Int) (g9 : Int) (h0 : List (S31)) (h1 : List (S60)) (h2 : Int) (h3 : Int) (w0 w : World) (hI : IsS74 w0 w g a7 d1 d2) (hB : Below w0.heap.size w0 w) (h : spec_l07Page.f k a7 d1 d2 = some (r1, r2, r3, r4, r5, r6, r7, r8, r9, g8, g9, h0, h1, h2, h3)) :
  Calls Try.prog 10 #[.pointer (some ⟨g, 0, none⟩)] w fun e w' => ∃ v0_ v5_ v11_ v12_ : Value, e = .returned (.agg #[v0_, .int .i64 r2, .int .i64 r3, .int .i64 r4, .int .i64 r5, v5_, .int .i64 r7, .int .i64 r8, .int .i64 r9, .int .i64 g8, .int .i64 g9, v11_, v12_]) ∧ Kd.V (Kd.int .i64) 3 w' w.heap.size (fun k_ => (w.heap.size ≤ k_)) v0_ r1 ∧ Kd.V k80 80 w' w.heap.size (fun k_ => (w.heap.size ≤ k_)) v5_ r6 ∧ Kd.V k31 31 w' w.heap.size (fun k_ => (w.heap.size ≤ k_)) v11_ h0 ∧ Kd.V k60 60 w' w.heap.size (fun k_ => (w.heap.size ≤ k_)) v12_ h1 ∧ IsS74 w0 w' g a7 h2 h3 ∧ Below w0.heap.size w0 w' ∧ KeepBut w w' g none := by
 have hu35 := Try.underlying35
 have HI0 := aM hI
 have HK := aM (KeepBut.refl w g none)
 have HL := aM hB.size
 clear hI
 have HW0 := aM hB.size
 have HB := aM hB
 clear hB
 have H := h
 clear h
 unfold spec_l07Page.f at H
 replace H := bN H
 obtain ⟨⟨b8, d4, d5⟩, A2, H⟩ := H
 replace H := bN H
 obtain ⟨⟨d6, e0, e1, e2, e3, e4, e5, e6, e7, e8, e9, f0, f3, f8⟩, A3, H⟩ := H
 simp only [Option.some.injEq, Prod.mk.injEq] at H
 obtain ⟨rfl, rfl, rfl, rfl, rfl, rfl, rfl, rfl, rfl, rfl, rfl, rfl, rfl, rfl, rfl⟩ := H
 go_enter Try.func10, Try.ntmps10
 go_wp2_with (first | ((with_reducible refine gD 2 ?_); refine bxE #[.slice none 0 0, .int .i64 0, .int .i64 0, .int .i64 0, .int .i64 0, .slice none 0 0, .int .i64 0, .int .i64 0, .int .i64 0, .int .i64 0, .int .i64 0, .slice none 0 0, .slice none 0 0] 35 ?_; intro a2 hg w4 a8 hb; have GW668 := aM ((by rw [hg]; exact (keep_size (w := w) (g := g) (row := none) (kp HK)) : w.heap.size ≤ a2)); have GE668 := aM ((Nat.le_trans HW0.out (by rw [hg]; exact (keep_size (w := w) (g := g) (row := none) (kp HK)) : w.heap.size ≤ a2) : w0.heap.size ≤ a2)); have a3 := aM ((by rw [hg]; exact Nat.ne_of_lt (IsS74.lt (show IsS74 w0 _ g a7 d1 d2 from iS74 HI0)) : g ≠ a2)); have a9 := aM ((by rw [hg]; exact Nat.ne_of_gt (IsS74.lt (show IsS74 w0 _ g a7 d1 d2 from iS74 HI0)) : a2 ≠ g)); replace HK := aM (KeepBut.trans (kp HK) (KeepBut.of_below hb g none) (.inl rfl)); replace HB := aM (below_step (bI HB (IsS74.ge HI0.out)) hb); replace HI0 := aM (IsS74.below (iS74 HI0) hb); clear hb hg) | ((with_reducible refine gC 29 ?_); refine cL (some 7) Try.func29 #[.pointer (some ⟨g, 0, none⟩)] ?_; (with_reducible refine (spec_l07Tokens.calls k g a7 d1 d2 b8 d4 d5 w0 _ ?side1 ?side2 A2.out).mono ?_); (case side1 => repeat (first | (with_reducible first | exact HI0.out | apply IsS74.alloc | apply IsS74.drewN | apply IsS74.drew | apply IsS74.set_1 | apply IsS74.set_2 | refine IsS74.far ?_ a3.out _) | exact HI0.out)); (case side2 => repeat (first | (with_reducible first | exact HB.out | apply below_alloc | apply pw_below_drewN | apply below_drew1 | refine below_set ?_ (IsS74.ge HI0.out) | refine below_set ?_ GE668.out) | exact HB.out)); rintro e w5 ⟨h7, rfl, f4, hi, hb, hk⟩; refine ⟨_, rfl, ?_⟩; have a5 := aM (Kd.R_lower (Kd.R_newM (M := fun k_ => (w.heap.size ≤ k_)) f4 (keep_size (w := w) (g := g) (row := none) (by repeat (first | (with_reducible first | exact HK.out | apply KeepBut.set_ | apply keep_drewN | apply keep_drew | apply keep_alloc | refine keep_far ?_ GW668.out _) | exact HK.out))) (fun k_ h_ => h_)) (keep_size (w := w) (g := g) (row := none) (by repeat (first | (with_reducible first | exact HK.out | apply KeepBut.set_ | apply keep_drewN | apply keep_drew | apply keep_alloc | refine keep_far ?_ GW668.out _) | exact HK.out)))); replace a8 := aM (KeepBut.blk hk (g' := a2) kS a9.out (by simp)); replace HK := aM (KeepBut.trans (by repeat (first | (with_reducible first | exact HK.out | apply KeepBut.set_ | apply keep_drewN | apply keep_drew | apply keep_alloc | refine keep_far ?_ GW668.out _) | exact HK.out)) hk (.inl rfl)); replace HB := aM (hb); replace HI0 := aM (hi); (try clear hb hk hi f4); obtain ⟨f6, f7, h8⟩ := Kd.R_slice a5.out; subst h8) | ((with_reducible refine gC 28 ?_); refine cM (some 8) Try.func28 (spec_RunPage.calls k _ _ b8 d6 e0 e1 e2 e3 e4 e5 e6 e7 e8 e9 f0 f3 f8 _ (cS (Kd.R_reads' a5.out).2.2) ((Kd.R_reads' a5.out).2.1) A3.out) ?_; rintro e w7 ⟨h9, i1, i3, i4, rfl, f4, h4, h5, h6, hb⟩; refine ⟨_, rfl, ?_⟩; have b0 := aM (Kd.V_lower (Kd.V_mono (ok' := fun k_ => (w.heap.size ≤ k_) ∧ some k_ ≠ (.slice f6 b8.length f7 : Value).ownBlock ∧ k_ ≠ a2 ∧ k_ ≠ g) f4 (fun k_ hk_ => ⟨(Nat.le_trans (keep_size (w := w) (g := g) (row := none) (by repeat (first | (with_reducible first | exact HK.out | apply KeepBut.set_ | apply keep_drewN | apply keep_drew | apply keep_alloc | refine keep_far ?_ GW668.out _) | exact HK.out))) hk_), (Kd.fresh' (Kd.R_lt (rS a5)) k_ hk_), (Kd.freshB (g := a2) kS k_ hk_), (IsS74.fresh (by repeat (first | (with_reducible first | exact HI0.out | apply IsS74.alloc | apply IsS74.drewN | apply IsS74.drew | apply IsS74.set_1 | apply IsS74.set_2 | refine IsS74.far ?_ a3.out _) | exact HI0.out)) k_ hk_)⟩)) (keep_size (w := w) (g := g) (row := none) (by repeat (first | (with_reducible first | exact HK.out | apply KeepBut.set_ | apply keep_drewN | apply keep_drew | apply keep_alloc | refine keep_far ?_ GW668.out _) | exact HK.out)))); have b1 := aM (Kd.V_lower (Kd.V_mono (ok' := fun k_ => (w.heap.size ≤ k_) ∧ some k_ ≠ (.slice f6 b8.length f7 : Value).ownBlock ∧ k_ ≠ a2 ∧ k_ ≠ g) h4 (fun k_ hk_ => ⟨(Nat.le_trans (keep_size (w := w) (g := g) (row := none) (by repeat (first | (with_reducible first | exact HK.out | apply KeepBut.set_ | apply keep_drewN | apply keep_drew | apply keep_alloc | refine keep_far ?_ GW668.out _) | exact HK.out))) hk_), (Kd.fresh' (Kd.R_lt (rS a5)) k_ hk_), (Kd.freshB (g := a2) kS k_ hk_), (IsS74.fresh (by repeat (first | (with_reducible first | exact HI0.out | apply IsS74.alloc | apply IsS74.drewN | apply IsS74.drew | apply IsS74.set_1 | apply IsS74.set_2 | refine IsS74.far ?_ a3.out _) | exact HI0.out)) k_ hk_)⟩)) (keep_size (w := w) (g := g) (row := none) (by repeat (first | (with_reducible first | exact HK.out | apply KeepBut.set_ | apply keep_drewN | apply keep_drew | apply keep_alloc | refine keep_far ?_ GW668.out _) | exact HK.out)))); have b2 := aM (Kd.V_lower (Kd.V_mono (ok' := fun k_ => (w.heap.size ≤ k_) ∧ some k_ ≠ (.slice f6 b8.length f7 : Value).ownBlock ∧ k_ ≠ a2 ∧ k_ ≠ g) h5 (fun k_ hk_ => ⟨(Nat.le_trans (keep_size (w := w) (g := g) (row := none) (by repeat (first | (with_reducible first | exact HK.out | apply KeepBut.set_ | apply keep_drewN | apply keep_drew | apply keep_alloc | refine keep_far ?_ GW668.out _) | exact HK.out))) hk_), (Kd.fresh' (Kd.R_lt (rS a5)) k_ hk_), (Kd.freshB (g := a2) kS k_ hk_), (IsS74.fresh (by repeat (first | (with_reducible first | exact HI0.out | apply IsS74.alloc | apply IsS74.drewN | apply IsS74.drew | apply IsS74.set_1 | apply IsS74.set_2 | refine IsS74.far ?_ a3.out _) | exact HI0.out)) k_ hk_)⟩)) (keep_size (w := w) (g := g) (row := none) (by repeat (first | (with_reducible first | exact HK.out | apply KeepBut.set_ | apply keep_drewN | apply keep_drew | apply keep_alloc | refine keep_far ?_ GW668.out _) | exact HK.out)))); have b6 := aM (Kd.V_lower (Kd.V_mono (ok' := fun k_ => (w.heap.size ≤ k_) ∧ some k_ ≠ (.slice f6 b8.length f7 : Value).ownBlock ∧ k_ ≠ a2 ∧ k_ ≠ g) h6 (fun k_ hk_ => ⟨(Nat.le_trans (keep_size (w := w) (g := g) (row := none) (by repeat (first | (with_reducible first | exact HK.out | apply KeepBut.set_ | apply keep_drewN | apply keep_drew | apply keep_alloc | refine keep_far ?_ GW668.out _) | exact HK.out))) hk_), (Kd.fresh' (Kd.R_lt (rS a5)) k_ hk_), (Kd.freshB (g := a2) kS k_ hk_), (IsS74.fresh (by repeat (first | (with_reducible first | exact HI0.out | apply IsS74.alloc | apply IsS74.drewN | apply IsS74.drew | apply IsS74.set_1 | apply IsS74.set_2 | refine IsS74.far ?_ a3.out _) | exact HI0.out)) k_ hk_)⟩)) (keep_size (w := w) (g := g) (row := none) (by repeat (first | (with_reducible first | exact HK.out | apply KeepBut.set_ | apply keep_drewN | apply keep_drew | apply keep_alloc | refine keep_far ?_ GW668.out _) | exact HK.out)))); replace a5 := rB a5 hb; replace a8 := kB_ a2 hb; replace HK := aM (KeepBut.trans (by repeat (first | (with_reducible first | exact HK.out | apply KeepBut.set_ | apply keep_drewN | apply keep_drew | apply keep_alloc | refine keep_far ?_ GW668.out _) | exact HK.out)) (KeepBut.of_below hb g none) (.inl rfl)); replace HB := aM (below_step (by repeat (first | (with_reducible first | exact HB.out | apply below_alloc | apply pw_below_drewN | apply below_drew1 | refine below_set ?_ (IsS74.ge HI0.out) | refine below_set ?_ GE668.out) | exact HB.out)) hb); replace HI0 := aM (IsS74.below (by repeat (first | (with_reducible first | exact HI0.out | apply IsS74.alloc | apply IsS74.drewN | apply IsS74.drew | apply IsS74.set_1 | apply IsS74.set_2 | refine IsS74.far ?_ a3.out _) | exact HI0.out)) hb); (try clear hb f4 h4 h5 h6)) | ((with_reducible refine gD 3 ?_); refine bxE #[.slice none 0 0, .int .i64 0, .int .i64 0, .int .i64 0, .int .i64 0, .slice none 0 0, .int .i64 0, .int .i64 0, .int .i64 0, .int .i64 0, .int .i64 0, .slice none 0 0, .slice none 0 0] 35 ?_; intro a6 hg w8 f5 hb; have GW696 := aM ((by rw [hg]; exact (keep_size (w := w) (g := g) (row := none) (by repeat (first | (with_reducible first | exact HK.out | apply KeepBut.set_ | apply keep_drewN | apply keep_drew | apply keep_alloc | refine keep_far ?_ GW668.out _) | exact HK.out))) : w.heap.size ≤ a6)); have GE696 := aM ((Nat.le_trans HW0.out (by rw [hg]; exact (keep_size (w := w) (g := g) (row := none) (by repeat (first | (with_reducible first | exact HK.out | apply KeepBut.set_ | apply keep_drewN | apply keep_drew | apply keep_alloc | refine keep_far ?_ GW668.out _) | exact HK.out))) : w.heap.size ≤ a6) : w0.heap.size ≤ a6)); have b9 := nL_ a2 hg; have d0 := nG_ a2 hg; have b7 := aM ((by rw [hg]; exact Nat.ne_of_lt (IsS74.lt (show IsS74 w0 _ g a7 d4 d5 from by repeat (first | (with_reducible first | exact HI0.out | apply IsS74.alloc | apply IsS74.drewN | apply IsS74.drew | apply IsS74.set_1 | apply IsS74.set_2 | refine IsS74.far ?_ a3.out _) | exact HI0.out))) : g ≠ a6)); have d3 := aM ((by rw [hg]; exact Nat.ne_of_gt (IsS74.lt (show IsS74 w0 _ g a7 d4 d5 from by repeat (first | (with_reducible first | exact HI0.out | apply IsS74.alloc | apply IsS74.drewN | apply IsS74.drew | apply IsS74.set_1 | apply IsS74.set_2 | refine IsS74.far ?_ a3.out _) | exact HI0.out))) : a6 ≠ g)); replace a5 := rB a5 hb; replace b0 := vE (vS [] b0) hg hb; replace b1 := vE (vS [] b1) hg hb; replace b2 := vE (vS [] b2) hg hb; replace b6 := vE (vS [] b6) hg hb; replace a8 := kB_ a2 hb; replace HK := aM (KeepBut.trans (by repeat (first | (with_reducible first | exact HK.out | apply KeepBut.set_ | apply keep_drewN | apply keep_drew | apply keep_alloc | refine keep_far ?_ GW668.out _) | exact HK.out)) (KeepBut.of_below hb g none) (.inl rfl)); replace HB := aM (below_step (by repeat (first | (with_reducible first | exact HB.out | apply below_alloc | apply pw_below_drewN | apply below_drew1 | refine below_set ?_ (IsS74.ge HI0.out) | refine below_set ?_ GE668.out) | exact HB.out)) hb); replace HI0 := aM (IsS74.below (by repeat (first | (with_reducible first | exact HI0.out | apply IsS74.alloc | apply IsS74.drewN | apply IsS74.drew | apply IsS74.set_1 | apply IsS74.set_2 | refine IsS74.far ?_ a3.out _) | exact HI0.out)) hb); clear hb hg; obtain ⟨i5, i6, i7⟩ := Kd.V_slice b0.out; subst i7; have hnb10 := nP d0 b9; have hnb11 := nP d3 b7; have hz12 := cz13 f5; obtain ⟨f9, g0, g1⟩ := Kd.V_slice b1.out; subst g1; obtain ⟨g2, g3, g4⟩ := Kd.V_slice b2.out; subst g4; obtain ⟨g5, g6, g7⟩ := Kd.V_slice b6.out; subst g7; have hnb16 := nP a9 a3; have hz17 := cz13 a8))
 refine bodyPost_ret (results_cell_row rfl _ _ a2 35 #[.slice i5 d6.length i6, .int .i64 e0, .int .i64 e1, .int .i64 e2, .int .i64 e3, .slice f9 e4.length g0, .int .i64 e5, .int .i64 e6, .int .i64 e7, .int .i64 e8, .int .i64 e9, .slice g2 f0.length g3, .slice g5 f3.length g6] (0, 0) _ rfl kS Try.underlying35 rfl (by kernel_rfl)) rfl ?_
 exact ⟨_, _, _, _, eS, vO [a6, a2] b0, vO [a6, a2] b1, vO [a6, a2] b2, vO [a6, a2] b6, by repeat (first | (with_reducible first | exact HI0.out | apply IsS74.alloc | apply IsS74.drewN | apply IsS74.drew | apply IsS74.set_1 | apply IsS74.set_2 | refine IsS74.far ?_ a3.out _ | refine IsS74.far ?_ b7.out _) | exact HI0.out), by repeat (first | (with_reducible first | exact HB.out | apply below_alloc | apply pw_below_drewN | apply below_drew1 | refine below_set ?_ (IsS74.ge HI0.out) | refine below_set ?_ GE668.out | refine below_set ?_ GE696.out) | exact HB.out), by repeat (first | (with_reducible first | exact HK.out | apply KeepBut.set_ | apply keep_drewN | apply keep_drew | apply keep_alloc | refine keep_far ?_ GW668.out _ | refine keep_far ?_ GW696.out _) | exact HK.out)⟩

end Go.Proofs.Ytjodcfjaedhpeaa.QFnPages
