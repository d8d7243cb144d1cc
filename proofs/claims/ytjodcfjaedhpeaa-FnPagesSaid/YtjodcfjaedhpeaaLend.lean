/- Words for rows of rows: an element is lent to what writes it, and put back. -/
import Derived.Test.YtjodcfjaedhpeaaShort
import Derived.Laws.CopyOwn
import Derived.Deep.RegionLaw
set_option linter.unusedVariables false
namespace Go.Proofs.YtjodcfjaedhpeaaW.PrintMore
open Go.RowKit Go.Proofs.YtjodcfjaedhpeaaW.PrintWords Go.Proofs.YtjodcfjaedhpeaaW.PrintLast
section
variable {α : Type} {d : Kd α} {e base n cap g : Nat} {W W2 : World} {ok oki : Nat → Prop} {u v : Value} {xs : List α} {i : Int} {c : List Value}
def FrI (L : List (Nat × Obj)) (a : Nat) (T : List Nat) (W : World) : Prop := ∀ p, p ∈ L → W.heap[p.1]? = some p.2 ∧ p.1 ≠ a ∧ ∃ c t, p.2 = .cells c t (0, 0) ∧ t ∈ T
section
variable {L : List (Nat × Obj)} {a g1 g2 g3 g4 : Nat} {T : List Nat} {W0 W1 : World} {c1 c2 c3 c4 : Array Value} {t1 t2 t3 t4 : Nat}
theorem FrI_below (h : FrI L a T W0) (hb : Below W0.heap.size W0 W1) : FrI L a T W1 := fun p hp => ⟨blk_below (h p hp).1 hb, (h p hp).2⟩
theorem FrI_drew (h : FrI L a T W0) : FrI L a T W0.drew := h
theorem FrI_grown {x : Value} {t : Nat} (h : FrI L a T W0) (hg : W0.grownBy W1 x.ownBlock) (hty : ∀ k, x.ownBlock = some k → ∃ cells, W0.heap[k]? = some (.cells cells t (0, 0))) (ht : t ∉ T) : FrI L a T W1 := fun p hp => by
  obtain ⟨hb, ha, c, t', he, hT⟩ := h p hp
  refine ⟨blk_grown hb hg (fun e_ => ?_), ha, c, t', he, hT⟩
  obtain ⟨cells, hc⟩ := hty p.1 e_.symm
  rw [hb, he] at hc
  injection hc with hc
  injection hc with _ hc
  exact ht (hc ▸ hT)
theorem FrI_get {g : Nat} {o : Obj} (h : FrI L a T W0) (hm : (g, o) ∈ L) : W0.heap[g]? = some o := (h _ hm).1
theorem FrI_nil : FrI [] a T W0 := fun p hp => by cases hp
theorem FrI_cons {g t : Nat} {c : Array Value} (h : FrI L a T W0) (hb : W0.heap[g]? = some (.cells c t (0, 0))) (hn : g ≠ a) (ht : t ∈ T) : FrI ((g, .cells c t (0, 0)) :: L) a T W0 := fun p hp => by
  rcases List.mem_cons.1 hp with rfl | hp
  · exact ⟨hb, hn, c, t, rfl, ht⟩
  · exact h p hp
theorem FrI_pack3 (h1 : W0.heap[g1]? = some (.cells c1 t1 (0, 0))) (h2 : W0.heap[g2]? = some (.cells c2 t2 (0, 0))) (h3 : W0.heap[g3]? = some (.cells c3 t3 (0, 0))) (n1 : g1 ≠ a) (n2 : g2 ≠ a) (n3 : g3 ≠ a) (T : List Nat) (m1 : t1 ∈ T) (m2 : t2 ∈ T) (m3 : t3 ∈ T) :
    ∃ L : List (Nat × Obj), FrI L a T W0 ∧ (g1, .cells c1 t1 (0, 0)) ∈ L ∧ (g2, .cells c2 t2 (0, 0)) ∈ L ∧ (g3, .cells c3 t3 (0, 0)) ∈ L := ⟨_, FrI_cons (FrI_cons (FrI_cons FrI_nil h3 n3 m3) h2 n2 m2) h1 n1 m1, by simp, by simp, by simp⟩
end
def OnB (g : Nat) (W W2 : World) : Prop := W.heap.size ≤ W2.heap.size ∧ ∀ k, k < W.heap.size → k ≠ g → W2.heap[k]? = W.heap[k]?
theorem OnB_refl (g : Nat) (W : World) : OnB g W W := ⟨Nat.le_refl _, fun _ _ _ => rfl⟩
theorem OnB_set {g : Nat} {W W2 : World} (h : OnB g W W2) (j : Nat) (x : Value) : OnB g W (W2.setCell ⟨g, j, none⟩ x) := ⟨by simpa [World.setCell] using h.1, fun k hl hk => (Below.heap_setCell W2 ⟨g, j, none⟩ x k hk).trans (h.2 k hl hk)⟩
theorem OnB_below {g : Nat} {W W2 W3 : World} (h : OnB g W W2) (hb : Below W2.heap.size W2 W3) : OnB g W W3 := ⟨Nat.le_trans h.1 hb.size, fun k hl hk => (hb.block k (Nat.lt_of_lt_of_le hl h.1)).trans (h.2 k hl hk)⟩
theorem OnB_alloc {g : Nat} {W W2 : World} (h : OnB g W W2) (o : Obj) : OnB g W (W2.alloc o) := OnB_below h (below_alloc (Below.refl _ _) o)
theorem OnB_drewN {g : Nat} {W W2 : World} (h : OnB g W W2) (m : Nat) : OnB g W (W2.drewN m) := h
theorem OnB_drew {g : Nat} {W W2 : World} (h : OnB g W W2) : OnB g W W2.drew := h
theorem R_on {g : Nat} {W W2 : World} (h : Kd.R d e W base ok v xs) (hok : ∀ k, ok k → k ≠ g) (hW : OnB g W W2 := by repeat (first | (with_reducible refine OnB_set ?_ _ _) | (with_reducible refine OnB_alloc ?_ _) | (with_reducible refine OnB_drewN ?_ _) | (with_reducible refine OnB_drew ?_) | exact OnB_refl _ _)) : Kd.R d e W2 base ok v xs := Kd.R_step h (fun k ho hl => hW.2 k hl (hok k ho))
theorem S_on {g : Nat} {W W2 : World} (h : Kd.S d e W base ok v xs) (hok : ∀ k, ok k → k ≠ g) (hW : OnB g W W2 := by repeat (first | (with_reducible refine OnB_set ?_ _ _) | (with_reducible refine OnB_alloc ?_ _) | (with_reducible refine OnB_drewN ?_ _) | (with_reducible refine OnB_drew ?_) | exact OnB_refl _ _)) : Kd.S d e W2 base ok v xs := Kd.S_step h (fun k ho hl => hW.2 k hl (hok k ho))
theorem cO {g g' i : Nat} {w w' : World} {v : Value} (nb : Aside0 (g ≠ g')) (on : OnB g' w w') (h : w.cell? ⟨g, i, none⟩ = some v) : w'.cell? ⟨g, i, none⟩ = some v := by
  have hl := World.block_lt_of_cell? _ _ h
  have e := on.2 g hl nb.out
  unfold World.cell? at h ⊢
  simp only [e]
  exact h
theorem cOp {p : Addr} {g' : Nat} {w w' : World} {v : Value} (nb : p.block ≠ g') (on : OnB g' w w') (h : w.cell? p = some v) : w'.cell? p = some v := by
  have hl := World.block_lt_of_cell? _ _ h
  have e := on.2 p.block hl nb
  unfold World.cell? at h ⊢
  simp only [e]
  exact h
theorem cOq {p : Addr} {g' : Nat} {w w' : World} {v : Value} (on : OnB g' w w') (h : w.cell? p = some v) (nb : p.block ≠ g') : w'.cell? p = some v := cOp nb on h
theorem onW {g : Nat} {w w' : World} {p : Prop} (f : OnB g w w' → p) (hW : OnB g w w' := by repeat (first | (with_reducible exact OnB_refl _ _) | (with_reducible refine OnB_set ?_ _ _) | (with_reducible refine OnB_alloc ?_ _) | (with_reducible refine OnB_drewN ?_ _) | (with_reducible refine OnB_drew ?_))) : p := f hW
def OnL (l : List Nat) (W W2 : World) : Prop := W.heap.size ≤ W2.heap.size ∧ ∀ k, k < W.heap.size → k ∉ l → W2.heap[k]? = W.heap[k]?
theorem OnL_refl (l : List Nat) (W : World) : OnL l W W := ⟨Nat.le_refl _, fun _ _ _ => rfl⟩
theorem OnL_set {l : List Nat} {g : Nat} {W W2 : World} (h : OnL l W W2) (j : Nat) (x : Value) (hg : g ∈ l) : OnL l W (W2.setCell ⟨g, j, none⟩ x) := ⟨by simpa [World.setCell] using h.1, fun k hl hk => (Below.heap_setCell W2 ⟨g, j, none⟩ x k (fun e => hk (e ▸ hg))).trans (h.2 k hl hk)⟩
theorem OnL_below {l : List Nat} {W W2 W3 : World} (h : OnL l W W2) (hb : Below W2.heap.size W2 W3) : OnL l W W3 := ⟨Nat.le_trans h.1 hb.size, fun k hl hk => (hb.block k (Nat.lt_of_lt_of_le hl h.1)).trans (h.2 k hl hk)⟩
theorem OnL_alloc {l : List Nat} {W W2 : World} (h : OnL l W W2) (o : Obj) : OnL l W (W2.alloc o) := OnL_below h (below_alloc (Below.refl _ _) o)
theorem OnL_drewN {l : List Nat} {W W2 : World} (h : OnL l W W2) (m : Nat) : OnL l W (W2.drewN m) := h
theorem OnL_drew {l : List Nat} {W W2 : World} (h : OnL l W W2) : OnL l W W2.drew := h
section
variable {L : List (Nat × Obj)} {a : Nat} {T : List Nat} {W0 W1 W2 : World} {g t t2 : Nat} {c : Array Value} {x : Value} {l : List Nat}
def FrN (L : List (Nat × Obj)) (l : List Nat) : Prop := ∀ p ∈ L, p.1 ∉ l
theorem FrN0 (h : FrI L a T W0) : FrN L [a] := fun p hp => by simpa using (h p hp).2.1
theorem FrN1 (h : FrI L a T W0) (n : FrN L l) (hb : W0.heap[g]? = some (.cells c t (0, 0))) (hn : t ∉ T) : FrN L (g :: l) := fun p hp hm => by
  rcases List.mem_cons.1 hm with e | hm
  · obtain ⟨h1, _, c', t', he, hT⟩ := h p hp
    rw [e, hb, he] at h1
    injection h1 with h1; injection h1 with _ h1; subst h1; exact hn hT
  · exact n p hp hm
theorem FrI_self (h : FrI L a T W0) (n : FrN L l) (hW : OnL l W0 W1 := by repeat (first | (with_reducible exact OnL_refl _ _) | (with_reducible refine OnL_set ?_ _ _ (by simp)) | (with_reducible refine OnL_alloc ?_ _) | (with_reducible refine OnL_drewN ?_ _) | (with_reducible refine OnL_drew ?_))) : FrI L a T W1 := fun p hp => by
  obtain ⟨h1, ha, h2⟩ := h p hp
  refine ⟨(hW.2 p.1 ?_ (n p hp)).trans h1, ha, h2⟩
  rcases Nat.lt_or_ge p.1 W0.heap.size with y | y
  · exact y
  · rw [Array.getElem?_eq_none y] at h1; cases h1
theorem FrI_belowS (hb : Below W1.heap.size W1 W2) (h : FrI L a T W0) (n : FrN L l) (hW : OnL l W0 W1 := by repeat (first | (with_reducible exact OnL_refl _ _) | (with_reducible refine OnL_set ?_ _ _ (by simp)) | (with_reducible refine OnL_alloc ?_ _) | (with_reducible refine OnL_drewN ?_ _) | (with_reducible refine OnL_drew ?_))) : FrI L a T W2 := FrI_below (FrI_self h n hW) hb
theorem FrI_grownS (hg : W1.grownBy W2 x.ownBlock) (hty : ∀ k, x.ownBlock = some k → ∃ cells, W1.heap[k]? = some (.cells cells t2 (0, 0))) (ht : t2 ∉ T) (h : FrI L a T W0) (n : FrN L l) (hW : OnL l W0 W1 := by repeat (first | (with_reducible exact OnL_refl _ _) | (with_reducible refine OnL_set ?_ _ _ (by simp)) | (with_reducible refine OnL_alloc ?_ _) | (with_reducible refine OnL_drewN ?_ _) | (with_reducible refine OnL_drew ?_))) : FrI L a T W2 := FrI_grown (FrI_self h n hW) hg hty ht
end
theorem blk_neT {W : World} {g1 g2 t1 t2 : Nat} {c1 c2 : Array Value} (h1 : W.heap[g1]? = some (.cells c1 t1 (0, 0))) (h2 : W.heap[g2]? = some (.cells c2 t2 (0, 0))) (hn : t1 ≠ t2) : g1 ≠ g2 := fun e => by
  rw [e, h2] at h1
  injection h1 with h1; injection h1 with _ h1; exact hn h1.symm
theorem S_split {ad : Addr} (h : Kd.S d e W base ok (.slice (some ad) n cap) xs) (z : α) (i : Int) (h0 : 0 ≤ i) (h1 : i < n) :
    ∃ c, c.length = d.sz ∧ ∃ okj : Nat → Prop, (∀ k, okj k → ok k ∧ some k ≠ (Value.slice (some ad) n cap).ownBlock) ∧ d.M W base okj (xs.getD i.toNat z) c ∧ (∀ j u, c[j]? = some u → W.cell? (ad.add (i.toNat * d.sz + j)) = some u) ∧ Kd.S d e W base (fun k => ok k ∧ ¬ okj k) (.slice (some ad) i.toNat cap) (xs.take i.toNat) := by
  obtain ⟨f, h⟩ := h
  obtain ⟨c, hc, hM, hcc⟩ := Kd.R_getA h (z, i.toNat) i h0 h1
  have hn : n = xs.length := by have := (Kd.R_reads' h).1; rwa [List.length_zipIdx] at this
  have hg : xs.zipIdx.getD i.toNat (z, i.toNat) = (xs.getD i.toNat z, i.toNat) := by
    rw [List.getD_eq_getElem?_getD, List.getElem?_zipIdx, List.getD_eq_getElem?_getD, Nat.zero_add]
    cases xs[i.toNat]? <;> rfl
  rw [hg] at hM
  refine ⟨c, hc, fun k => (ok k ∧ some k ≠ (Value.slice (some ad) n cap).ownBlock) ∧ f k = i.toNat, fun k hk => hk.1, hM, hcc, f, ?_⟩
  have ht := Kd.R_take h (m := i.toNat) (by rw [List.length_zipIdx]; omega)
  have he : (xs.take i.toNat).zipIdx = xs.zipIdx.take i.toNat := by
    apply List.ext_getElem?
    intro j
    simp only [List.getElem?_zipIdx, List.getElem?_take, Nat.zero_add]
    split <;> simp
  rw [he]
  obtain ⟨h0', inner, ho, hr⟩ := ht
  refine ⟨fun k hk => ⟨h0' k hk, fun hk2 => hk2.1.2 hk.symm⟩, inner, ho, hr.1, fun j p hj => ?_⟩
  refine d.M_mono (fun k hk => ⟨⟨⟨hk.1.1, fun h3 => ?_⟩, hk.1.2⟩, hk.2⟩) (hr.2 j p hj)
  have h4 : f k = p.2 := hk.2
  have h5 : f k = i.toNat := h3.2
  rw [List.getElem?_take] at hj
  split at hj
  · rename_i hlt
    rw [List.getElem?_zipIdx, Nat.zero_add] at hj
    obtain ⟨x, _, rfl⟩ := Option.map_eq_some_iff.1 hj
    have : f k = j := h4
    omega
  · cases hj
theorem S_spl {β : Type} {d' : Kd β} {e' b' : Nat} {oj : Nat → Prop} {ys : List β} (h : Kd.S d e W base (fun k => ok k ∧ ¬ oj k) v xs) (hg : Kd.R d' e' W b' oj u ys) : Kd.S d e W base (fun k => (ok k ∧ some k ≠ u.ownBlock) ∧ ¬ oj k) v xs :=
  Kd.S_mono h (fun k hk => ⟨⟨hk.1, fun he => hk.2 (hg.1 k he.symm)⟩, hk.2⟩)
theorem S_spd {oj : Nat → Prop} (h : Kd.S d e W base (fun k => ok k ∧ ¬ oj k) v xs) : Kd.S d e W base ok v xs := Kd.S_mono h (fun _ hk => hk.1)
end
section
end
/-! What the fourth shortening (post.py) leaves in place of longer rows. -/
def mBl : Nat → Nat → List Bool
  | 0, _ => []
  | n + 1, m => (m % 2 == 1) :: mBl n (m / 2)
def mB (n m : Nat) : Array Bool := (mBl n m).toArray
section
variable {α : Type} {d : Kd α} {e base : Nat} {w w' : World} {ok ok' : Nat → Prop} {v : Value} {l : List α} {g t g2 t2 : Nat} {cs cs2 : Array Value}
theorem sG (h : Aside0 (Kd.S d e w base ok v l)) (b : Aside0 (w.heap[g]? = some (.cells cs t (0, 0)))) (hq : ∀ q, q ∈ e :: d.E → q ≠ t := by decide) (p : Kd.S d e w base (fun k => ok k ∧ k ≠ g) v l → Kd.S d e w' base (fun k => ok k ∧ k ≠ g) v l := by intro h_; (repeat (first | (with_reducible exact h_) | (with_reducible refine Kd.S_far ?_ (fun _ hk => hk.2) _) | (with_reducible apply Kd.S_alloc) | (with_reducible apply Kd.S_drewN) | (with_reducible apply Kd.S_drew))); all_goals exact h_) : Kd.S d e w' base ok v l := Kd.S_mono (p (Kd.S_types h.out b.out hq)) (fun _ h => h.1)
theorem rG (h : Aside0 (Kd.R d e w base ok v l)) (b : Aside0 (w.heap[g]? = some (.cells cs t (0, 0)))) (hq : ∀ q, q ∈ e :: d.E → q ≠ t := by decide) (p : Kd.R d e w base (fun k => ok k ∧ k ≠ g) v l → Kd.R d e w' base (fun k => ok k ∧ k ≠ g) v l := by intro h_; (repeat (first | (with_reducible exact h_) | (with_reducible refine Kd.R_far ?_ (fun _ hk => hk.2) _) | (with_reducible apply Kd.R_alloc) | (with_reducible apply Kd.R_drewN) | (with_reducible apply Kd.R_drew))); all_goals exact h_) : Kd.R d e w' base ok v l := Kd.R_mono (p (Kd.R_types h.out b.out hq)) (fun _ h => h.1)
theorem sM (h : Aside0 (Kd.S d e w base ok v l)) (m : ∀ k, ok k → ok' k := by intro _ hk; first | exact hk | exact trivial | (simp only [hk, ne_eq, not_false_eq_true, and_self])) (p : Kd.S d e w base ok' v l → Kd.S d e w' base ok' v l := by intro h_; (with_reducible repeat (first | apply Kd.S_alloc | apply Kd.S_drewN | apply Kd.S_drew)); exact h_) : Kd.S d e w' base ok' v l := p (Kd.S_mono h.out m)
theorem rM (h : Aside0 (Kd.R d e w base ok v l)) (m : ∀ k, ok k → ok' k := by intro _ hk; first | exact hk | exact trivial | (simp only [hk, ne_eq, not_false_eq_true, and_self])) (p : Kd.R d e w base ok' v l → Kd.R d e w' base ok' v l := by intro h_; (with_reducible repeat (first | apply Kd.R_alloc | apply Kd.R_drewN | apply Kd.R_drew)); exact h_) : Kd.R d e w' base ok' v l := p (Kd.R_mono h.out m)
end
theorem cC {α : Type} {K : Kd α} {A : Option Addr} {n : Nat} {l : List α} {w w1 w' : World} (h : Aside0 (Kd.C K w A n l)) (hb : Aside0 (Below w.heap.size w w1)) (p : Kd.C K w1 A n l → Kd.C K w' A n l := by intro h_; (repeat (first | (with_reducible exact h_) | (with_reducible refine Kd.C_alloc ?_ _) | (with_reducible refine Kd.C_drewN ?_ _) | (with_reducible refine Kd.C_drew ?_))); all_goals exact h_) : Kd.C K w' A n l := p (Kd.C_below h.out hb.out)
theorem kB_ {W w1 : World} (g : Nat) {o : Obj} (hb : Below W.heap.size W w1) (h : W.heap[g]? = some o := by exact kS) : Aside0 (w1.heap[g]? = some o) := ⟨blk_below h hb⟩
theorem nL_ {W : World} (g : Nat) {g' : Nat} {o : Obj} (hg : g' = W.heap.size) (h : W.heap[g]? = some o := by exact kS) : Aside0 (g ≠ g') := nL hg h
theorem nG_ {W : World} (g : Nat) {g' : Nat} {o : Obj} (hg : g' = W.heap.size) (h : W.heap[g]? = some o := by exact kS) : Aside0 (g' ≠ g) := nG hg h
theorem kO {W w1 : World} (g : Nat) (cs : Array Value) (t : Nat) (hb : Below W.heap.size W w1) (h : W.heap[g]? = some (.cells cs t (0, 0)) := by exact kS) : Aside0 (w1.heap[g]? = some (.cells cs t (0, 0))) := ⟨blk_below h hb⟩
theorem cg0 {W : World} {g t : Nat} {x0 : Value} {l : List Value} (h : Aside0 (W.heap[g]? = some (.cells (x0 :: l).toArray t (0, 0)))) : W.cell? ⟨g, 0, none⟩ = some x0 := (blk_cell h.out 0).trans (by simp)
theorem cg1 {W : World} {g t : Nat} {x0 x1 : Value} {l : List Value} (h : Aside0 (W.heap[g]? = some (.cells (x0 :: x1 :: l).toArray t (0, 0)))) : W.cell? ⟨g, 1, none⟩ = some x1 := (blk_cell h.out 1).trans (by simp)
theorem cg2 {W : World} {g t : Nat} {x0 x1 x2 : Value} {l : List Value} (h : Aside0 (W.heap[g]? = some (.cells (x0 :: x1 :: x2 :: l).toArray t (0, 0)))) : W.cell? ⟨g, 2, none⟩ = some x2 := (blk_cell h.out 2).trans (by simp)
theorem cg3 {W : World} {g t : Nat} {x0 x1 x2 x3 : Value} {l : List Value} (h : Aside0 (W.heap[g]? = some (.cells (x0 :: x1 :: x2 :: x3 :: l).toArray t (0, 0)))) : W.cell? ⟨g, 3, none⟩ = some x3 := (blk_cell h.out 3).trans (by simp)
theorem cg4 {W : World} {g t : Nat} {x0 x1 x2 x3 x4 : Value} {l : List Value} (h : Aside0 (W.heap[g]? = some (.cells (x0 :: x1 :: x2 :: x3 :: x4 :: l).toArray t (0, 0)))) : W.cell? ⟨g, 4, none⟩ = some x4 := (blk_cell h.out 4).trans (by simp)
theorem cg5 {W : World} {g t : Nat} {x0 x1 x2 x3 x4 x5 : Value} {l : List Value} (h : Aside0 (W.heap[g]? = some (.cells (x0 :: x1 :: x2 :: x3 :: x4 :: x5 :: l).toArray t (0, 0)))) : W.cell? ⟨g, 5, none⟩ = some x5 := (blk_cell h.out 5).trans (by simp)
theorem cg6 {W : World} {g t : Nat} {x0 x1 x2 x3 x4 x5 x6 : Value} {l : List Value} (h : Aside0 (W.heap[g]? = some (.cells (x0 :: x1 :: x2 :: x3 :: x4 :: x5 :: x6 :: l).toArray t (0, 0)))) : W.cell? ⟨g, 6, none⟩ = some x6 := (blk_cell h.out 6).trans (by simp)
theorem cg7 {W : World} {g t : Nat} {x0 x1 x2 x3 x4 x5 x6 x7 : Value} {l : List Value} (h : Aside0 (W.heap[g]? = some (.cells (x0 :: x1 :: x2 :: x3 :: x4 :: x5 :: x6 :: x7 :: l).toArray t (0, 0)))) : W.cell? ⟨g, 7, none⟩ = some x7 := (blk_cell h.out 7).trans (by simp)
theorem cg8 {W : World} {g t : Nat} {x0 x1 x2 x3 x4 x5 x6 x7 x8 : Value} {l : List Value} (h : Aside0 (W.heap[g]? = some (.cells (x0 :: x1 :: x2 :: x3 :: x4 :: x5 :: x6 :: x7 :: x8 :: l).toArray t (0, 0)))) : W.cell? ⟨g, 8, none⟩ = some x8 := (blk_cell h.out 8).trans (by simp)
theorem cg9 {W : World} {g t : Nat} {x0 x1 x2 x3 x4 x5 x6 x7 x8 x9 : Value} {l : List Value} (h : Aside0 (W.heap[g]? = some (.cells (x0 :: x1 :: x2 :: x3 :: x4 :: x5 :: x6 :: x7 :: x8 :: x9 :: l).toArray t (0, 0)))) : W.cell? ⟨g, 9, none⟩ = some x9 := (blk_cell h.out 9).trans (by simp)
theorem cg10 {W : World} {g t : Nat} {x0 x1 x2 x3 x4 x5 x6 x7 x8 x9 x10 : Value} {l : List Value} (h : Aside0 (W.heap[g]? = some (.cells (x0 :: x1 :: x2 :: x3 :: x4 :: x5 :: x6 :: x7 :: x8 :: x9 :: x10 :: l).toArray t (0, 0)))) : W.cell? ⟨g, 10, none⟩ = some x10 := (blk_cell h.out 10).trans (by simp)
theorem cg11 {W : World} {g t : Nat} {x0 x1 x2 x3 x4 x5 x6 x7 x8 x9 x10 x11 : Value} {l : List Value} (h : Aside0 (W.heap[g]? = some (.cells (x0 :: x1 :: x2 :: x3 :: x4 :: x5 :: x6 :: x7 :: x8 :: x9 :: x10 :: x11 :: l).toArray t (0, 0)))) : W.cell? ⟨g, 11, none⟩ = some x11 := (blk_cell h.out 11).trans (by simp)
theorem cg12 {W : World} {g t : Nat} {x0 x1 x2 x3 x4 x5 x6 x7 x8 x9 x10 x11 x12 : Value} {l : List Value} (h : Aside0 (W.heap[g]? = some (.cells (x0 :: x1 :: x2 :: x3 :: x4 :: x5 :: x6 :: x7 :: x8 :: x9 :: x10 :: x11 :: x12 :: l).toArray t (0, 0)))) : W.cell? ⟨g, 12, none⟩ = some x12 := (blk_cell h.out 12).trans (by simp)
end Go.Proofs.YtjodcfjaedhpeaaW.PrintMore
