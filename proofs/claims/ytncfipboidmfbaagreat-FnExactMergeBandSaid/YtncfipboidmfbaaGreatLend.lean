/- Words for rows of rows: an element is lent to what writes it, and put back. -/
import Derived.Test.YtncfipboidmfbaaGreatShort
import Derived.Laws.CopyOwn
import Derived.Deep.RegionLaw
set_option linter.unusedVariables false
namespace Go.Proofs.YtncfipboidmfbaaGreatW.PrintMore
open Go.RowKit Go.Proofs.YtncfipboidmfbaaGreatW.PrintWords Go.Proofs.YtncfipboidmfbaaGreatW.PrintLast
section
variable {α : Type} {d : Kd α} {e base n cap g : Nat} {W W2 : World} {ok oki : Nat → Prop} {u v : Value} {xs : List α} {i : Int} {c : List Value}
/-- A row of rows that was just made, its begin by a letter. -/
theorem S_born {w2 : World} {N : Nat} (h : Kd.S d e w2 N ok u xs) : ∃ b : Nat, Aside0 (b = N) ∧ Kd.S d e w2 b ok u xs := ⟨_, ⟨rfl⟩, h⟩
/-- An elder one lies below what is new. -/
theorem S_oldB {b : Nat} (h : Kd.S d e W base ok u xs) (hb : Below W.heap.size W W2) (hz : b = W.heap.size) : Kd.S d e W2 base (fun k => ok k ∧ k < b) u xs := by subst hz; exact Kd.S_old h hb
theorem S_ltB {N b b2 : Nat} (h : Kd.S d e W base (fun k => ok k ∧ k < b) u xs) (h1 : b = N) (h2 : b2 = N) : Kd.S d e W base (fun k => (ok k ∧ k < b) ∧ k < b2) u xs := Kd.S_mono h (fun k hk => ⟨hk, by have := hk.2; omega⟩)
theorem R_born {w2 : World} {N : Nat} (h : Kd.R d e w2 N ok u xs) : ∃ b : Nat, Aside0 (b = N) ∧ Kd.R d e w2 b ok u xs := ⟨_, ⟨rfl⟩, h⟩
theorem R_oldB {b : Nat} (h : Kd.R d e W base ok u xs) (hb : Below W.heap.size W W2) (hz : b = W.heap.size) : Kd.R d e W2 base (fun k => ok k ∧ k < b) u xs := by subst hz; exact Kd.R_old h hb
theorem R_ltB {N b b2 : Nat} (h : Kd.R d e W base (fun k => ok k ∧ k < b) u xs) (h1 : b = N) (h2 : b2 = N) : Kd.R d e W base (fun k => (ok k ∧ k < b) ∧ k < b2) u xs := Kd.R_mono h (fun k hk => ⟨hk, by have := hk.2; omega⟩)
theorem S_not (P : Nat → Prop) (h : Kd.S d e W base ok u xs) (hn : ∀ k, (ok k ∧ base ≤ k ∧ k < W.heap.size ∧ ∃ q, q ∈ e :: d.E ∧ ∃ cells, W.heap[k]? = some (.cells cells q (0, 0))) → P k → False) : Kd.S d e W base (fun k => ok k ∧ ¬ P k) u xs := Kd.S_mono (Kd.S_bound h) (fun k hk => ⟨hk.1, hn k hk⟩)
theorem R_not (P : Nat → Prop) (h : Kd.R d e W base ok u xs) (hn : ∀ k, (ok k ∧ base ≤ k ∧ k < W.heap.size ∧ ∃ q, q ∈ e :: d.E ∧ ∃ cells, W.heap[k]? = some (.cells cells q (0, 0))) → P k → False) : Kd.R d e W base (fun k => ok k ∧ ¬ P k) u xs := Kd.R_mono (Kd.R_bound h) (fun k hk => ⟨hk.1, hn k hk⟩)
/-- What was lent has been written. -/
theorem H_lent (h : Kd.H d e W base ok u xs i oki c) (hk : Kept W W2 oki) (hok : ∀ k, W.heap.size ≤ k → ok k) : Kd.H d e W2 base ok u xs i (fun k => oki k ∨ W.heap.size ≤ k) c := by
  obtain ⟨ho, f, hR⟩ := Kd.H_step (w1 := W2) (Kd.H_widen h) (fun k _ hn hlt => hk.2 k hlt (fun ho => hn (.inl ho)))
  exact ⟨fun k hk' => ho k (hk'.imp id (fun h2 => ⟨hok k h2, h2⟩)), f, Kd.R_mono hR (fun k hk' => ⟨hk'.1, fun h2 => hk'.2 (h2.imp id (fun h3 => ⟨hok k h3, h3⟩))⟩)⟩
/-- The lent element's cells. -/
theorem H_cells (h : Kd.H d e W base ok (.slice (some ⟨g, 0, none⟩) n cap) xs i oki c) (h0 : 0 ≤ i) (h1 : i < n) : (∀ j x, c[j]? = some x → W.cell? ⟨g, i.toNat * d.sz + j, none⟩ = some x) ∧ (∀ j, W.frozen? ⟨g, i.toNat * d.sz + j, none⟩ = false) := by
  obtain ⟨rows, _, hraw, hcl, hco, hcc, hback⟩ := Kd.H_raw h h0 h1
  obtain ⟨cells, hb⟩ := Kd.R_typed hraw g (by simp [Value.ownBlock])
  exact ⟨hcc, fun j => blk_frozen hb _⟩
theorem H_lt (h : Kd.H d e W base ok (.slice (some ⟨g, 0, none⟩) n cap) xs i oki c) (h0 : 0 ≤ i) (h1 : i < n) : g < W.heap.size := by
  obtain ⟨rows, _, hraw, _⟩ := Kd.H_raw h h0 h1
  obtain ⟨cells, hb⟩ := Kd.R_typed hraw g (by simp [Value.ownBlock])
  exact blk_lt hb
/-- One of them is written. -/
theorem H_put (h : Kd.H d e W base ok (.slice (some ⟨g, 0, none⟩) n cap) xs i oki c) (h0 : 0 ≤ i) (h1 : i < n) (j : Nat) (hj : j < d.sz) (hc : c.length = d.sz) (x : Value) (hx : x.oneCell' = true) :
    Kd.H d e (W.setCell ⟨g, i.toNat * d.sz + j, none⟩ x) base ok (.slice (some ⟨g, 0, none⟩) n cap) xs i oki (c.set j x) ∧ W.grownBy (W.setCell ⟨g, i.toNat * d.sz + j, none⟩ x) (some g) := by
  have hs := Kd.H_seg h h0 h1 (seg := [x]) (j := j) (by simp only [List.length_singleton]; omega) (by intro q hq; rw [List.mem_singleton.1 hq]; exact hx)
  have e : c.take j ++ [x] ++ c.drop (j + [x].length) = c.set j x := by
    rw [List.set_eq_take_append_cons_drop, if_pos (by omega)]; simp
  rw [e] at hs
  exact hs
end
end Go.Proofs.YtncfipboidmfbaaGreatW.PrintMore
