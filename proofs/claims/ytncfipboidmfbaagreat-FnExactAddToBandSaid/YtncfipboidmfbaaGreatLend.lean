/- Words for rows of rows: an element is lent to what writes it, and put back. -/
import Derived.Test.YtncfipboidmfbaaGreatShort
import Derived.Laws.CopyOwn
import Derived.Deep.RegionLaw
set_option linter.unusedVariables false
namespace Go.Proofs.YtncfipboidmfbaaGreatW.PrintMore
open Go.RowKit Go.Proofs.YtncfipboidmfbaaGreatW.PrintWords Go.Proofs.YtncfipboidmfbaaGreatW.PrintLast
section
variable {α : Type} {d : Kd α} {e base n cap g : Nat} {W W2 : World} {ok oki : Nat → Prop} {u v : Value} {xs : List α} {i : Int} {c : List Value}
/-- A row of rows that was just made, its begin by a letter. -/
theorem S_born {w2 : World} {N : Nat} (h : Kd.S d e w2 N ok u xs) : ∃ b : Nat, Aside0 (b = N) ∧ Kd.S d e w2 b ok u xs := ⟨_, ⟨rfl⟩, h⟩
/-- An elder one lies below what is new. -/
theorem S_oldB {b : Nat} (h : Kd.S d e W base ok u xs) (hb : Below W.heap.size W W2) (hz : b = W.heap.size) : Kd.S d e W2 base (fun k => ok k ∧ k < b) u xs := by subst hz; exact Kd.S_old h hb
theorem S_ltB {N b b2 : Nat} (h : Kd.S d e W base (fun k => ok k ∧ k < b) u xs) (h1 : b = N) (h2 : b2 = N) : Kd.S d e W base (fun k => (ok k ∧ k < b) ∧ k < b2) u xs := Kd.S_mono h (fun k hk => ⟨hk, by have := hk.2; omega⟩)
theorem R_born {w2 : World} {N : Nat} (h : Kd.R d e w2 N ok u xs) : ∃ b : Nat, Aside0 (b = N) ∧ Kd.R d e w2 b ok u xs := ⟨_, ⟨rfl⟩, h⟩
theorem R_oldB {b : Nat} (h : Kd.R d e W base ok u xs) (hb : Below W.heap.size W W2) (hz : b = W.heap.size) : Kd.R d e W2 base (fun k => ok k ∧ k < b) u xs := by subst hz; exact Kd.R_old h hb
theorem R_ltB {N b b2 : Nat} (h : Kd.R d e W base (fun k => ok k ∧ k < b) u xs) (h1 : b = N) (h2 : b2 = N) : Kd.R d e W base (fun k => (ok k ∧ k < b) ∧ k < b2) u xs := Kd.R_mono h (fun k hk => ⟨hk, by have := hk.2; omega⟩)
theorem S_not (P : Nat → Prop) (h : Kd.S d e W base ok u xs) (hn : ∀ k, (ok k ∧ base ≤ k ∧ k < W.heap.size ∧ ∃ q, q ∈ e :: d.E ∧ ∃ cells, W.heap[k]? = some (.cells cells q (0, 0))) → P k → False) : Kd.S d e W base (fun k => ok k ∧ ¬ P k) u xs := Kd.S_mono (Kd.S_bound h) (fun k hk => ⟨hk.1, hn k hk⟩)
theorem R_not (P : Nat → Prop) (h : Kd.R d e W base ok u xs) (hn : ∀ k, (ok k ∧ base ≤ k ∧ k < W.heap.size ∧ ∃ q, q ∈ e :: d.E ∧ ∃ cells, W.heap[k]? = some (.cells cells q (0, 0))) → P k → False) : Kd.R d e W base (fun k => ok k ∧ ¬ P k) u xs := Kd.R_mono (Kd.R_bound h) (fun k hk => ⟨hk.1, hn k hk⟩)
/-- What was lent has been written. -/
theorem H_lent (h : Kd.H d e W base ok u xs i oki c) (hk : Kept W W2 oki) (hok : ∀ k, W.heap.size ≤ k → ok k) : Kd.H d e W2 base ok u xs i (fun k => oki k ∨ W.heap.size ≤ k) c := by
  obtain ⟨ho, f, hR⟩ := Kd.H_step (w1 := W2) (Kd.H_widen h) (fun k _ hn hlt => hk.2 k hlt (fun ho => hn (.inl ho)))
  exact ⟨fun k hk' => ho k (hk'.imp id (fun h2 => ⟨hok k h2, h2⟩)), f, Kd.R_mono hR (fun k hk' => ⟨hk'.1, fun h2 => hk'.2 (h2.imp id (fun h3 => ⟨hok k h3, h3⟩))⟩)⟩
/-- The lent element's cells. -/
theorem H_cells (h : Kd.H d e W base ok (.slice (some ⟨g, 0, none⟩) n cap) xs i oki c) (h0 : 0 ≤ i) (h1 : i < n) : (∀ j x, c[j]? = some x → W.cell? ⟨g, i.toNat * d.sz + j, none⟩ = some x) ∧ (∀ j, W.frozen? ⟨g, i.toNat * d.sz + j, none⟩ = false) := by
  obtain ⟨rows, _, hraw, hcl, hco, hcc, hback⟩ := Kd.H_raw h h0 h1
  obtain ⟨cells, hb⟩ := Kd.R_typed hraw g (by simp [Value.ownBlock])
  exact ⟨hcc, fun j => blk_frozen hb _⟩
theorem H_lt (h : Kd.H d e W base ok (.slice (some ⟨g, 0, none⟩) n cap) xs i oki c) (h0 : 0 ≤ i) (h1 : i < n) : g < W.heap.size := by
  obtain ⟨rows, _, hraw, _⟩ := Kd.H_raw h h0 h1
  obtain ⟨cells, hb⟩ := Kd.R_typed hraw g (by simp [Value.ownBlock])
  exact blk_lt hb
/-- One of them is written. -/
theorem H_put (h : Kd.H d e W base ok (.slice (some ⟨g, 0, none⟩) n cap) xs i oki c) (h0 : 0 ≤ i) (h1 : i < n) (j : Nat) (hj : j < d.sz) (hc : c.length = d.sz) (x : Value) (hx : x.oneCell' = true) :
    Kd.H d e (W.setCell ⟨g, i.toNat * d.sz + j, none⟩ x) base ok (.slice (some ⟨g, 0, none⟩) n cap) xs i oki (c.set j x) ∧ W.grownBy (W.setCell ⟨g, i.toNat * d.sz + j, none⟩ x) (some g) := by
  have hs := Kd.H_seg h h0 h1 (seg := [x]) (j := j) (by simp only [List.length_singleton]; omega) (by intro q hq; rw [List.mem_singleton.1 hq]; exact hx)
  have e : c.take j ++ [x] ++ c.drop (j + [x].length) = c.set j x := by
    rw [List.set_eq_take_append_cons_drop, if_pos (by omega)]; simp
  rw [e] at hs
  exact hs
end
/-! What the fourth shortening (post.py) leaves in place of longer rows. -/
def mBl : Nat → Nat → List Bool
  | 0, _ => []
  | n + 1, m => (m % 2 == 1) :: mBl n (m / 2)
/-- Which of n operators are done, by the bits of a number. -/
def mB (n m : Nat) : Array Bool := (mBl n m).toArray
section
variable {α : Type} {d : Kd α} {e base : Nat} {w w' : World} {ok ok' : Nat → Prop} {v : Value} {l : List α} {g t g2 t2 : Nat} {cs cs2 : Array Value}
theorem sG (h : Aside0 (Kd.S d e w base ok v l)) (b : Aside0 (w.heap[g]? = some (.cells cs t (0, 0)))) (hq : ∀ q, q ∈ e :: d.E → q ≠ t := by decide) (p : Kd.S d e w base (fun k => ok k ∧ k ≠ g) v l → Kd.S d e w' base (fun k => ok k ∧ k ≠ g) v l := by intro h_; (repeat (first | (with_reducible exact h_) | (with_reducible refine Kd.S_far ?_ (fun _ hk => hk.2) _) | (with_reducible apply Kd.S_alloc) | (with_reducible apply Kd.S_drewN) | (with_reducible apply Kd.S_drew))); all_goals exact h_) : Kd.S d e w' base ok v l := Kd.S_mono (p (Kd.S_types h.out b.out hq)) (fun _ h => h.1)
theorem rG (h : Aside0 (Kd.R d e w base ok v l)) (b : Aside0 (w.heap[g]? = some (.cells cs t (0, 0)))) (hq : ∀ q, q ∈ e :: d.E → q ≠ t := by decide) (p : Kd.R d e w base (fun k => ok k ∧ k ≠ g) v l → Kd.R d e w' base (fun k => ok k ∧ k ≠ g) v l := by intro h_; (repeat (first | (with_reducible exact h_) | (with_reducible refine Kd.R_far ?_ (fun _ hk => hk.2) _) | (with_reducible apply Kd.R_alloc) | (with_reducible apply Kd.R_drewN) | (with_reducible apply Kd.R_drew))); all_goals exact h_) : Kd.R d e w' base ok v l := Kd.R_mono (p (Kd.R_types h.out b.out hq)) (fun _ h => h.1)
theorem sM (h : Aside0 (Kd.S d e w base ok v l)) (m : ∀ k, ok k → ok' k := by intro _ hk; simp only [hk, ne_eq, not_false_eq_true, and_self]) (p : Kd.S d e w base ok' v l → Kd.S d e w' base ok' v l := by intro h_; (with_reducible repeat (first | apply Kd.S_alloc | apply Kd.S_drewN | apply Kd.S_drew)); exact h_) : Kd.S d e w' base ok' v l := p (Kd.S_mono h.out m)
theorem rM (h : Aside0 (Kd.R d e w base ok v l)) (m : ∀ k, ok k → ok' k := by intro _ hk; simp only [hk, ne_eq, not_false_eq_true, and_self]) (p : Kd.R d e w base ok' v l → Kd.R d e w' base ok' v l := by intro h_; (with_reducible repeat (first | apply Kd.R_alloc | apply Kd.R_drewN | apply Kd.R_drew)); exact h_) : Kd.R d e w' base ok' v l := p (Kd.R_mono h.out m)
end
theorem cF {g g' i : Nat} {w w' : World} {v : Value} (nb : Aside0 (g ≠ g')) (h : w.cell? ⟨g, i, none⟩ = some v) (p : g ≠ g' → w.cell? ⟨g, i, none⟩ = some v → w'.cell? ⟨g, i, none⟩ = some v := by intro n_ h_; (repeat (first | (with_reducible exact h_) | (with_reducible refine Eq.trans (cell_far (p := ⟨_, _, none⟩) (a := ⟨_, _, none⟩) n_ _) ?_))); all_goals exact h_) : w'.cell? ⟨g, i, none⟩ = some v := p nb.out h
theorem cC {α : Type} {K : Kd α} {A : Option Addr} {n : Nat} {l : List α} {w w1 w' : World} (h : Aside0 (Kd.C K w A n l)) (hb : Aside0 (Below w.heap.size w w1)) (p : Kd.C K w1 A n l → Kd.C K w' A n l := by intro h_; (repeat (first | (with_reducible exact h_) | (with_reducible refine Kd.C_alloc ?_ _) | (with_reducible refine Kd.C_drewN ?_ _) | (with_reducible refine Kd.C_drew ?_))); all_goals exact h_) : Kd.C K w' A n l := p (Kd.C_below h.out hb.out)
theorem kB_ {W w1 : World} (g : Nat) {o : Obj} (hb : Below W.heap.size W w1) (h : W.heap[g]? = some o := by exact kS) : Aside0 (w1.heap[g]? = some o) := ⟨blk_below h hb⟩
theorem nL_ {W : World} (g : Nat) {g' : Nat} {o : Obj} (hg : g' = W.heap.size) (h : W.heap[g]? = some o := by exact kS) : Aside0 (g ≠ g') := nL hg h
theorem nG_ {W : World} (g : Nat) {g' : Nat} {o : Obj} (hg : g' = W.heap.size) (h : W.heap[g]? = some o := by exact kS) : Aside0 (g' ≠ g) := nG hg h
theorem kO {W w1 : World} (g : Nat) (cs : Array Value) (t : Nat) (hb : Below W.heap.size W w1) (h : W.heap[g]? = some (.cells cs t (0, 0)) := by exact kS) : Aside0 (w1.heap[g]? = some (.cells cs t (0, 0))) := ⟨blk_below h hb⟩
/-- A block of another type is not what was lent. -/
theorem typed1 {W : World} {g t : Nat} {cs : Array Value} {fr : Nat × Nat} {L : List Nat} (hb : W.heap[g]? = some (.cells cs t fr)) (hp : ∃ q, q ∈ L ∧ ∃ c, W.heap[g]? = some (.cells c q (0, 0))) (hn : ∀ q, q ∈ L → q ≠ t) : False := by
  obtain ⟨q, hq, c, hc⟩ := hp
  rw [hb] at hc
  injection hc with hc
  injection hc with _ ht
  exact hn q hq ht.symm
theorem bM {W W1 : World} {S : Nat → Prop} {g : Nat} {o : Obj} (hkp : Kept W W1 S) (h : W.heap[g]? = some o := by exact kS) (q : ¬ S g := by
  intro hs_
  repeat' (first | exact typed1 (by exact Aside0.out (by assumption)) (And.right hs_) (by decide) | exact typed1 (by exact Aside0.out (by assumption)) (And.right (And.left hs_)) (by decide) | (simp only [ne_eq, not_true_eq_false, and_false, false_and] at hs_; done) | (refine Or.elim hs_ ?_ ?_ <;> clear hs_ <;> intro hs_))) : Aside0 (W1.heap[g]? = some o) := ⟨blk_kept h hkp q⟩
theorem cg0 {W : World} {g t : Nat} {x0 : Value} {l : List Value} (h : Aside0 (W.heap[g]? = some (.cells (x0 :: l).toArray t (0, 0)))) : W.cell? ⟨g, 0, none⟩ = some x0 := (blk_cell h.out 0).trans (by simp)
theorem cg1 {W : World} {g t : Nat} {x0 x1 : Value} {l : List Value} (h : Aside0 (W.heap[g]? = some (.cells (x0 :: x1 :: l).toArray t (0, 0)))) : W.cell? ⟨g, 1, none⟩ = some x1 := (blk_cell h.out 1).trans (by simp)
theorem cg2 {W : World} {g t : Nat} {x0 x1 x2 : Value} {l : List Value} (h : Aside0 (W.heap[g]? = some (.cells (x0 :: x1 :: x2 :: l).toArray t (0, 0)))) : W.cell? ⟨g, 2, none⟩ = some x2 := (blk_cell h.out 2).trans (by simp)
theorem cg3 {W : World} {g t : Nat} {x0 x1 x2 x3 : Value} {l : List Value} (h : Aside0 (W.heap[g]? = some (.cells (x0 :: x1 :: x2 :: x3 :: l).toArray t (0, 0)))) : W.cell? ⟨g, 3, none⟩ = some x3 := (blk_cell h.out 3).trans (by simp)
theorem cg4 {W : World} {g t : Nat} {x0 x1 x2 x3 x4 : Value} {l : List Value} (h : Aside0 (W.heap[g]? = some (.cells (x0 :: x1 :: x2 :: x3 :: x4 :: l).toArray t (0, 0)))) : W.cell? ⟨g, 4, none⟩ = some x4 := (blk_cell h.out 4).trans (by simp)
theorem cg5 {W : World} {g t : Nat} {x0 x1 x2 x3 x4 x5 : Value} {l : List Value} (h : Aside0 (W.heap[g]? = some (.cells (x0 :: x1 :: x2 :: x3 :: x4 :: x5 :: l).toArray t (0, 0)))) : W.cell? ⟨g, 5, none⟩ = some x5 := (blk_cell h.out 5).trans (by simp)
end Go.Proofs.YtncfipboidmfbaaGreatW.PrintMore
