/- Words for rows of rows: an element is lent to what writes it, and put back. -/
import Derived.Laws.CopyOwn
import Derived.Deep.RegionLaw
import Derived.Test.YtjkgponlahfnjaaGreatShort
set_option linter.unusedVariables false
namespace Go.Proofs.YtjkgponlahfnjaaGreatW.PrintMore
open Go.RowKit Go.Proofs.YtjkgponlahfnjaaGreatW.PrintWords Go.Proofs.YtjkgponlahfnjaaGreatW.PrintLast
section
variable {α : Type} {d : Kd α} {e base n cap g : Nat} {W W2 : World} {ok oki : Nat → Prop} {u v : Value} {xs : List α} {i : Int} {c : List Value}
def OnB (g : Nat) (W W2 : World) : Prop := W.heap.size ≤ W2.heap.size ∧ ∀ k, k < W.heap.size → k ≠ g → W2.heap[k]? = W.heap[k]?
theorem OnB_refl (g : Nat) (W : World) : OnB g W W := ⟨Nat.le_refl _, fun _ _ _ => rfl⟩
theorem OnB_set {g : Nat} {W W2 : World} (h : OnB g W W2) (j : Nat) (x : Value) : OnB g W (W2.setCell ⟨g, j, none⟩ x) := ⟨by simpa [World.setCell] using h.1, fun k hl hk => (Below.heap_setCell W2 ⟨g, j, none⟩ x k hk).trans (h.2 k hl hk)⟩
theorem OnB_below {g : Nat} {W W2 W3 : World} (h : OnB g W W2) (hb : Below W2.heap.size W2 W3) : OnB g W W3 := ⟨Nat.le_trans h.1 hb.size, fun k hl hk => (hb.block k (Nat.lt_of_lt_of_le hl h.1)).trans (h.2 k hl hk)⟩
theorem OnB_alloc {g : Nat} {W W2 : World} (h : OnB g W W2) (o : Obj) : OnB g W (W2.alloc o) := OnB_below h (below_alloc (Below.refl _ _) o)
theorem OnB_drewN {g : Nat} {W W2 : World} (h : OnB g W W2) (m : Nat) : OnB g W (W2.drewN m) := h
theorem OnB_drew {g : Nat} {W W2 : World} (h : OnB g W W2) : OnB g W W2.drew := h
theorem R_on {g : Nat} {W W2 : World} (h : Kd.R d e W base ok v xs) (hok : ∀ k, ok k → k ≠ g) (hW : OnB g W W2 := by repeat (first | (with_reducible refine OnB_set ?_ _ _) | (with_reducible refine OnB_alloc ?_ _) | (with_reducible refine OnB_drewN ?_ _) | (with_reducible refine OnB_drew ?_) | exact OnB_refl _ _)) : Kd.R d e W2 base ok v xs := Kd.R_step h (fun k ho hl => hW.2 k hl (hok k ho))
theorem cO {g g' i : Nat} {w w' : World} {v : Value} (nb : Aside0 (g ≠ g')) (on : OnB g' w w') (h : w.cell? ⟨g, i, none⟩ = some v) : w'.cell? ⟨g, i, none⟩ = some v := by
  have hl := World.block_lt_of_cell? _ _ h
  have e := on.2 g hl nb.out
  unfold World.cell? at h ⊢
  simp only [e]
  exact h
theorem cOp {p : Addr} {g' : Nat} {w w' : World} {v : Value} (nb : p.block ≠ g') (on : OnB g' w w') (h : w.cell? p = some v) : w'.cell? p = some v := by
  have hl := World.block_lt_of_cell? _ _ h
  have e := on.2 p.block hl nb
  unfold World.cell? at h ⊢
  simp only [e]
  exact h
theorem onW {g : Nat} {w w' : World} {p : Prop} (f : OnB g w w' → p) (hW : OnB g w w' := by repeat (first | (with_reducible exact OnB_refl _ _) | (with_reducible refine OnB_set ?_ _ _) | (with_reducible refine OnB_alloc ?_ _) | (with_reducible refine OnB_drewN ?_ _) | (with_reducible refine OnB_drew ?_))) : p := f hW
def OnL (l : List Nat) (W W2 : World) : Prop := W.heap.size ≤ W2.heap.size ∧ ∀ k, k < W.heap.size → k ∉ l → W2.heap[k]? = W.heap[k]?
theorem OnL_refl (l : List Nat) (W : World) : OnL l W W := ⟨Nat.le_refl _, fun _ _ _ => rfl⟩
theorem OnL_set {l : List Nat} {g : Nat} {W W2 : World} (h : OnL l W W2) (j : Nat) (x : Value) (hg : g ∈ l) : OnL l W (W2.setCell ⟨g, j, none⟩ x) := ⟨by simpa [World.setCell] using h.1, fun k hl hk => (Below.heap_setCell W2 ⟨g, j, none⟩ x k (fun e => hk (e ▸ hg))).trans (h.2 k hl hk)⟩
theorem OnL_below {l : List Nat} {W W2 W3 : World} (h : OnL l W W2) (hb : Below W2.heap.size W2 W3) : OnL l W W3 := ⟨Nat.le_trans h.1 hb.size, fun k hl hk => (hb.block k (Nat.lt_of_lt_of_le hl h.1)).trans (h.2 k hl hk)⟩
theorem OnL_alloc {l : List Nat} {W W2 : World} (h : OnL l W W2) (o : Obj) : OnL l W (W2.alloc o) := OnL_below h (below_alloc (Below.refl _ _) o)
theorem OnL_drewN {l : List Nat} {W W2 : World} (h : OnL l W W2) (m : Nat) : OnL l W (W2.drewN m) := h
theorem OnL_drew {l : List Nat} {W W2 : World} (h : OnL l W W2) : OnL l W W2.drew := h
theorem S_split {ad : Addr} (h : Kd.S d e W base ok (.slice (some ad) n cap) xs) (z : α) (i : Int) (h0 : 0 ≤ i) (h1 : i < n) :
    ∃ c, c.length = d.sz ∧ ∃ okj : Nat → Prop, (∀ k, okj k → ok k ∧ some k ≠ (Value.slice (some ad) n cap).ownBlock) ∧ d.M W base okj (xs.getD i.toNat z) c ∧ (∀ j u, c[j]? = some u → W.cell? (ad.add (i.toNat * d.sz + j)) = some u) ∧ Kd.S d e W base (fun k => ok k ∧ ¬ okj k) (.slice (some ad) i.toNat cap) (xs.take i.toNat) := by
  obtain ⟨f, h⟩ := h
  obtain ⟨c, hc, hM, hcc⟩ := Kd.R_getA h (z, i.toNat) i h0 h1
  have hn : n = xs.length := by have := (Kd.R_reads' h).1; rwa [List.length_zipIdx] at this
  have hg : xs.zipIdx.getD i.toNat (z, i.toNat) = (xs.getD i.toNat z, i.toNat) := by
    rw [List.getD_eq_getElem?_getD, List.getElem?_zipIdx, List.getD_eq_getElem?_getD, Nat.zero_add]
    cases xs[i.toNat]? <;> rfl
  rw [hg] at hM
  refine ⟨c, hc, fun k => (ok k ∧ some k ≠ (Value.slice (some ad) n cap).ownBlock) ∧ f k = i.toNat, fun k hk => hk.1, hM, hcc, f, ?_⟩
  have ht := Kd.R_take h (m := i.toNat) (by rw [List.length_zipIdx]; omega)
  have he : (xs.take i.toNat).zipIdx = xs.zipIdx.take i.toNat := by
    apply List.ext_getElem?
    intro j
    simp only [List.getElem?_zipIdx, List.getElem?_take, Nat.zero_add]
    split <;> simp
  rw [he]
  obtain ⟨h0', inner, ho, hr⟩ := ht
  refine ⟨fun k hk => ⟨h0' k hk, fun hk2 => hk2.1.2 hk.symm⟩, inner, ho, hr.1, fun j p hj => ?_⟩
  refine d.M_mono (fun k hk => ⟨⟨⟨hk.1.1, fun h3 => ?_⟩, hk.1.2⟩, hk.2⟩) (hr.2 j p hj)
  have h4 : f k = p.2 := hk.2
  have h5 : f k = i.toNat := h3.2
  rw [List.getElem?_take] at hj
  split at hj
  · rename_i hlt
    rw [List.getElem?_zipIdx, Nat.zero_add] at hj
    obtain ⟨x, _, rfl⟩ := Option.map_eq_some_iff.1 hj
    have : f k = j := h4
    omega
  · cases hj
theorem H_lent (h : Kd.H d e W base ok u xs i oki c) (hk : Kept W W2 oki) (hok : ∀ k, W.heap.size ≤ k → ok k) : Kd.H d e W2 base ok u xs i (fun k => oki k ∨ W.heap.size ≤ k) c := by
  obtain ⟨ho, f, hR⟩ := Kd.H_step (w1 := W2) (Kd.H_widen h) (fun k _ hn hlt => hk.2 k hlt (fun ho => hn (.inl ho)))
  exact ⟨fun k hk' => ho k (hk'.imp id (fun h2 => ⟨hok k h2, h2⟩)), f, Kd.R_mono hR (fun k hk' => ⟨hk'.1, fun h2 => hk'.2 (h2.imp id (fun h3 => ⟨hok k h3, h3⟩))⟩)⟩
theorem H_cells (h : Kd.H d e W base ok (.slice (some ⟨g, 0, none⟩) n cap) xs i oki c) (h0 : 0 ≤ i) (h1 : i < n) : (∀ j x, c[j]? = some x → W.cell? ⟨g, i.toNat * d.sz + j, none⟩ = some x) ∧ (∀ j, W.frozen? ⟨g, i.toNat * d.sz + j, none⟩ = false) := by
  obtain ⟨rows, _, hraw, hcl, hco, hcc, hback⟩ := Kd.H_raw h h0 h1
  obtain ⟨cells, hb⟩ := Kd.R_typed hraw g (by simp [Value.ownBlock])
  exact ⟨hcc, fun j => blk_frozen hb _⟩
theorem H_lt (h : Kd.H d e W base ok (.slice (some ⟨g, 0, none⟩) n cap) xs i oki c) (h0 : 0 ≤ i) (h1 : i < n) : g < W.heap.size := by
  obtain ⟨rows, _, hraw, _⟩ := Kd.H_raw h h0 h1
  obtain ⟨cells, hb⟩ := Kd.R_typed hraw g (by simp [Value.ownBlock])
  exact blk_lt hb
theorem H_put (h : Kd.H d e W base ok (.slice (some ⟨g, 0, none⟩) n cap) xs i oki c) (h0 : 0 ≤ i) (h1 : i < n) (j : Nat) (hj : j < d.sz) (hc : c.length = d.sz) (x : Value) (hx : x.oneCell' = true) :
    Kd.H d e (W.setCell ⟨g, i.toNat * d.sz + j, none⟩ x) base ok (.slice (some ⟨g, 0, none⟩) n cap) xs i oki (c.set j x) ∧ W.grownBy (W.setCell ⟨g, i.toNat * d.sz + j, none⟩ x) (some g) := by
  have hs := Kd.H_seg h h0 h1 (seg := [x]) (j := j) (by simp only [List.length_singleton]; omega) (by intro q hq; rw [List.mem_singleton.1 hq]; exact hx)
  have e : c.take j ++ [x] ++ c.drop (j + [x].length) = c.set j x := by
    rw [List.set_eq_take_append_cons_drop, if_pos (by omega)]; simp
  rw [e] at hs
  exact hs
end
def mBl : Nat → Nat → List Bool
  | 0, _ => []
  | n + 1, m => (m % 2 == 1) :: mBl n (m / 2)
def mB (n m : Nat) : Array Bool := (mBl n m).toArray
section
variable {α : Type} {d : Kd α} {e base : Nat} {w w' : World} {ok ok' : Nat → Prop} {v : Value} {l : List α} {g t g2 t2 : Nat} {cs cs2 : Array Value}
theorem rG (h : Aside0 (Kd.R d e w base ok v l)) (b : Aside0 (w.heap[g]? = some (.cells cs t (0, 0)))) (hq : ∀ q, q ∈ e :: d.E → q ≠ t := by decide) (p : Kd.R d e w base (fun k => ok k ∧ k ≠ g) v l → Kd.R d e w' base (fun k => ok k ∧ k ≠ g) v l := by intro h_; (repeat (first | (with_reducible exact h_) | (with_reducible refine Kd.R_far ?_ (fun _ hk => hk.2) _) | (with_reducible apply Kd.R_alloc) | (with_reducible apply Kd.R_drewN) | (with_reducible apply Kd.R_drew))); all_goals exact h_) : Kd.R d e w' base ok v l := Kd.R_mono (p (Kd.R_types h.out b.out hq)) (fun _ h => h.1)
theorem sH (h : Aside0 (Kd.S d e w base ok v l)) (b : Aside0 (w.heap[g]? = some (.cells cs t (0, 0)))) (b2 : Aside0 (w.heap[g2]? = some (.cells cs2 t2 (0, 0)))) (hq : ∀ q, q ∈ e :: d.E → q ≠ t := by decide) (hq2 : ∀ q, q ∈ e :: d.E → q ≠ t2 := by decide) (p : Kd.S d e w base (fun k => (ok k ∧ k ≠ g) ∧ k ≠ g2) v l → Kd.S d e w' base (fun k => (ok k ∧ k ≠ g) ∧ k ≠ g2) v l := by intro h_; (repeat (first | (with_reducible exact h_) | (with_reducible refine Kd.S_far ?_ (fun _ hk => hk.2) _) | (with_reducible refine Kd.S_far ?_ (fun _ hk => hk.1.2) _) | (with_reducible apply Kd.S_alloc) | (with_reducible apply Kd.S_drewN) | (with_reducible apply Kd.S_drew))); all_goals exact h_) : Kd.S d e w' base ok v l := Kd.S_mono (p (Kd.S_types (Kd.S_types h.out b.out hq) b2.out hq2)) (fun _ h => h.1.1)
theorem rM (h : Aside0 (Kd.R d e w base ok v l)) (m : ∀ k, ok k → ok' k := by intro _ hk; first | exact hk | exact trivial | (simp only [hk, ne_eq, not_false_eq_true, and_self])) (p : Kd.R d e w base ok' v l → Kd.R d e w' base ok' v l := by intro h_; (with_reducible repeat (first | apply Kd.R_alloc | apply Kd.R_drewN | apply Kd.R_drew)); exact h_) : Kd.R d e w' base ok' v l := p (Kd.R_mono h.out m)
end
theorem cF {g g' i : Nat} {w w' : World} {v : Value} (nb : Aside0 (g ≠ g')) (h : w.cell? ⟨g, i, none⟩ = some v) (p : g ≠ g' → w.cell? ⟨g, i, none⟩ = some v → w'.cell? ⟨g, i, none⟩ = some v := by intro n_ h_; (repeat (first | (with_reducible exact h_) | (with_reducible refine Eq.trans (cell_far (p := ⟨_, _, none⟩) (a := ⟨_, _, none⟩) n_ _) ?_))); all_goals exact h_) : w'.cell? ⟨g, i, none⟩ = some v := p nb.out h
theorem cC {α : Type} {K : Kd α} {A : Option Addr} {n : Nat} {l : List α} {w w1 w' : World} (h : Aside0 (Kd.C K w A n l)) (hb : Aside0 (Below w.heap.size w w1)) (p : Kd.C K w1 A n l → Kd.C K w' A n l := by intro h_; (repeat (first | (with_reducible exact h_) | (with_reducible refine Kd.C_alloc ?_ _) | (with_reducible refine Kd.C_drewN ?_ _) | (with_reducible refine Kd.C_drew ?_))); all_goals exact h_) : Kd.C K w' A n l := p (Kd.C_below h.out hb.out)
theorem kB_ {W w1 : World} (g : Nat) {o : Obj} (hb : Below W.heap.size W w1) (h : W.heap[g]? = some o := by exact kS) : Aside0 (w1.heap[g]? = some o) := ⟨blk_below h hb⟩
theorem nL_ {W : World} (g : Nat) {g' : Nat} {o : Obj} (hg : g' = W.heap.size) (h : W.heap[g]? = some o := by exact kS) : Aside0 (g ≠ g') := nL hg h
theorem nG_ {W : World} (g : Nat) {g' : Nat} {o : Obj} (hg : g' = W.heap.size) (h : W.heap[g]? = some o := by exact kS) : Aside0 (g' ≠ g) := nG hg h
theorem kO {W w1 : World} (g : Nat) (cs : Array Value) (t : Nat) (hb : Below W.heap.size W w1) (h : W.heap[g]? = some (.cells cs t (0, 0)) := by exact kS) : Aside0 (w1.heap[g]? = some (.cells cs t (0, 0))) := ⟨blk_below h hb⟩
theorem cg0 {W : World} {g t : Nat} {x0 : Value} {l : List Value} (h : Aside0 (W.heap[g]? = some (.cells (x0 :: l).toArray t (0, 0)))) : W.cell? ⟨g, 0, none⟩ = some x0 := (blk_cell h.out 0).trans (by simp)
theorem cg1 {W : World} {g t : Nat} {x0 x1 : Value} {l : List Value} (h : Aside0 (W.heap[g]? = some (.cells (x0 :: x1 :: l).toArray t (0, 0)))) : W.cell? ⟨g, 1, none⟩ = some x1 := (blk_cell h.out 1).trans (by simp)
theorem cg2 {W : World} {g t : Nat} {x0 x1 x2 : Value} {l : List Value} (h : Aside0 (W.heap[g]? = some (.cells (x0 :: x1 :: x2 :: l).toArray t (0, 0)))) : W.cell? ⟨g, 2, none⟩ = some x2 := (blk_cell h.out 2).trans (by simp)
theorem cg3 {W : World} {g t : Nat} {x0 x1 x2 x3 : Value} {l : List Value} (h : Aside0 (W.heap[g]? = some (.cells (x0 :: x1 :: x2 :: x3 :: l).toArray t (0, 0)))) : W.cell? ⟨g, 3, none⟩ = some x3 := (blk_cell h.out 3).trans (by simp)
theorem cg4 {W : World} {g t : Nat} {x0 x1 x2 x3 x4 : Value} {l : List Value} (h : Aside0 (W.heap[g]? = some (.cells (x0 :: x1 :: x2 :: x3 :: x4 :: l).toArray t (0, 0)))) : W.cell? ⟨g, 4, none⟩ = some x4 := (blk_cell h.out 4).trans (by simp)
theorem cg5 {W : World} {g t : Nat} {x0 x1 x2 x3 x4 x5 : Value} {l : List Value} (h : Aside0 (W.heap[g]? = some (.cells (x0 :: x1 :: x2 :: x3 :: x4 :: x5 :: l).toArray t (0, 0)))) : W.cell? ⟨g, 5, none⟩ = some x5 := (blk_cell h.out 5).trans (by simp)
theorem cg6 {W : World} {g t : Nat} {x0 x1 x2 x3 x4 x5 x6 : Value} {l : List Value} (h : Aside0 (W.heap[g]? = some (.cells (x0 :: x1 :: x2 :: x3 :: x4 :: x5 :: x6 :: l).toArray t (0, 0)))) : W.cell? ⟨g, 6, none⟩ = some x6 := (blk_cell h.out 6).trans (by simp)
theorem cg7 {W : World} {g t : Nat} {x0 x1 x2 x3 x4 x5 x6 x7 : Value} {l : List Value} (h : Aside0 (W.heap[g]? = some (.cells (x0 :: x1 :: x2 :: x3 :: x4 :: x5 :: x6 :: x7 :: l).toArray t (0, 0)))) : W.cell? ⟨g, 7, none⟩ = some x7 := (blk_cell h.out 7).trans (by simp)
theorem cg8 {W : World} {g t : Nat} {x0 x1 x2 x3 x4 x5 x6 x7 x8 : Value} {l : List Value} (h : Aside0 (W.heap[g]? = some (.cells (x0 :: x1 :: x2 :: x3 :: x4 :: x5 :: x6 :: x7 :: x8 :: l).toArray t (0, 0)))) : W.cell? ⟨g, 8, none⟩ = some x8 := (blk_cell h.out 8).trans (by simp)
theorem cg9 {W : World} {g t : Nat} {x0 x1 x2 x3 x4 x5 x6 x7 x8 x9 : Value} {l : List Value} (h : Aside0 (W.heap[g]? = some (.cells (x0 :: x1 :: x2 :: x3 :: x4 :: x5 :: x6 :: x7 :: x8 :: x9 :: l).toArray t (0, 0)))) : W.cell? ⟨g, 9, none⟩ = some x9 := (blk_cell h.out 9).trans (by simp)
theorem cg10 {W : World} {g t : Nat} {x0 x1 x2 x3 x4 x5 x6 x7 x8 x9 x10 : Value} {l : List Value} (h : Aside0 (W.heap[g]? = some (.cells (x0 :: x1 :: x2 :: x3 :: x4 :: x5 :: x6 :: x7 :: x8 :: x9 :: x10 :: l).toArray t (0, 0)))) : W.cell? ⟨g, 10, none⟩ = some x10 := (blk_cell h.out 10).trans (by simp)
theorem cg11 {W : World} {g t : Nat} {x0 x1 x2 x3 x4 x5 x6 x7 x8 x9 x10 x11 : Value} {l : List Value} (h : Aside0 (W.heap[g]? = some (.cells (x0 :: x1 :: x2 :: x3 :: x4 :: x5 :: x6 :: x7 :: x8 :: x9 :: x10 :: x11 :: l).toArray t (0, 0)))) : W.cell? ⟨g, 11, none⟩ = some x11 := (blk_cell h.out 11).trans (by simp)
theorem cg12 {W : World} {g t : Nat} {x0 x1 x2 x3 x4 x5 x6 x7 x8 x9 x10 x11 x12 : Value} {l : List Value} (h : Aside0 (W.heap[g]? = some (.cells (x0 :: x1 :: x2 :: x3 :: x4 :: x5 :: x6 :: x7 :: x8 :: x9 :: x10 :: x11 :: x12 :: l).toArray t (0, 0)))) : W.cell? ⟨g, 12, none⟩ = some x12 := (blk_cell h.out 12).trans (by simp)
end Go.Proofs.YtjkgponlahfnjaaGreatW.PrintMore
