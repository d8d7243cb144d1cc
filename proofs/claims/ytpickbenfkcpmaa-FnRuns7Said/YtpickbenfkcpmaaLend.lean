/- Words for rows of rows: an element is lent to what writes it, and put back. -/
import Derived.Test.YtpickbenfkcpmaaShort
import Derived.Laws.CopyOwn
import Derived.Deep.RegionLaw
set_option linter.unusedVariables false
namespace Go.Proofs.YtpickbenfkcpmaaW.PrintMore
open Go.RowKit Go.Proofs.YtpickbenfkcpmaaW.PrintWords Go.Proofs.YtpickbenfkcpmaaW.PrintLast
section
variable {α : Type} {d : Kd α} {e base n cap g : Nat} {W W2 : World} {ok oki : Nat → Prop} {u v : Value} {xs : List α} {i : Int} {c : List Value}
/-- A row of rows that was just made, its begin by a letter. -/
theorem S_born {w2 : World} {N : Nat} (h : Kd.S d e w2 N ok u xs) : ∃ b : Nat, Aside0 (b = N) ∧ Kd.S d e w2 b ok u xs := ⟨_, ⟨rfl⟩, h⟩
/-- An elder one lies below what is new. -/
theorem S_oldB {b : Nat} (h : Kd.S d e W base ok u xs) (hb : Below W.heap.size W W2) (hz : b = W.heap.size) : Kd.S d e W2 base (fun k => ok k ∧ k < b) u xs := by subst hz; exact Kd.S_old h hb
theorem S_ltB {N b b2 : Nat} (h : Kd.S d e W base (fun k => ok k ∧ k < b) u xs) (h1 : b = N) (h2 : b2 = N) : Kd.S d e W base (fun k => (ok k ∧ k < b) ∧ k < b2) u xs := Kd.S_mono h (fun k hk => ⟨hk, by have := hk.2; omega⟩)
theorem R_born {w2 : World} {N : Nat} (h : Kd.R d e w2 N ok u xs) : ∃ b : Nat, Aside0 (b = N) ∧ Kd.R d e w2 b ok u xs := ⟨_, ⟨rfl⟩, h⟩
theorem R_oldB {b : Nat} (h : Kd.R d e W base ok u xs) (hb : Below W.heap.size W W2) (hz : b = W.heap.size) : Kd.R d e W2 base (fun k => ok k ∧ k < b) u xs := by subst hz; exact Kd.R_old h hb
theorem R_ltB {N b b2 : Nat} (h : Kd.R d e W base (fun k => ok k ∧ k < b) u xs) (h1 : b = N) (h2 : b2 = N) : Kd.R d e W base (fun k => (ok k ∧ k < b) ∧ k < b2) u xs := Kd.R_mono h (fun k hk => ⟨hk, by have := hk.2; omega⟩)
theorem S_not (P : Nat → Prop) (h : Kd.S d e W base ok u xs) (hn : ∀ k, (ok k ∧ base ≤ k ∧ k < W.heap.size ∧ ∃ q, q ∈ e :: d.E ∧ ∃ cells, W.heap[k]? = some (.cells cells q (0, 0))) → P k → False) : Kd.S d e W base (fun k => ok k ∧ ¬ P k) u xs := Kd.S_mono (Kd.S_bound h) (fun k hk => ⟨hk.1, hn k hk⟩)
theorem R_not (P : Nat → Prop) (h : Kd.R d e W base ok u xs) (hn : ∀ k, (ok k ∧ base ≤ k ∧ k < W.heap.size ∧ ∃ q, q ∈ e :: d.E ∧ ∃ cells, W.heap[k]? = some (.cells cells q (0, 0))) → P k → False) : Kd.R d e W base (fun k => ok k ∧ ¬ P k) u xs := Kd.R_mono (Kd.R_bound h) (fun k hk => ⟨hk.1, hn k hk⟩)
/-- Variables in memory that stand by: none of them is at block a, their types are in T. -/
def FrI (L : List (Nat × Obj)) (a : Nat) (T : List Nat) (W : World) : Prop := ∀ p, p ∈ L → W.heap[p.1]? = some p.2 ∧ p.1 ≠ a ∧ ∃ c t, p.2 = .cells c t (0, 0) ∧ t ∈ T
section
variable {L : List (Nat × Obj)} {a g1 g2 g3 g4 : Nat} {T : List Nat} {W0 W1 : World} {c1 c2 c3 c4 : Array Value} {t1 t2 t3 t4 : Nat}
theorem FrI_below (h : FrI L a T W0) (hb : Below W0.heap.size W0 W1) : FrI L a T W1 := fun p hp => ⟨blk_below (h p hp).1 hb, (h p hp).2⟩
theorem FrI_alloc (h : FrI L a T W0) (o : Obj) : FrI L a T (W0.alloc o) := FrI_below h (below_alloc (Below.refl _ _) o)
theorem FrI_drewN (h : FrI L a T W0) (m : Nat) : FrI L a T (W0.drewN m) := h
theorem FrI_drew (h : FrI L a T W0) : FrI L a T W0.drew := h
theorem FrI_at {m : Nat} (hq : W0.drewN m = W1) (h : FrI L a T W0) : FrI L a T W1 := by subst hq; exact FrI_drewN h m
theorem FrI_set (h : FrI L a T W0) (j : Nat) (x : Value) : FrI L a T (W0.setCell ⟨a, j, none⟩ x) := fun p hp => by
  obtain ⟨hb, ha, c, t', he, hT⟩ := h p hp
  refine ⟨?_, ha, c, t', he, hT⟩
  rw [he] at hb ⊢
  exact blk_far (p := ⟨a, j, none⟩) hb ha x
theorem FrI_grown {x : Value} {t : Nat} (h : FrI L a T W0) (hg : W0.grownBy W1 x.ownBlock) (hty : ∀ k, x.ownBlock = some k → ∃ cells, W0.heap[k]? = some (.cells cells t (0, 0))) (ht : t ∉ T) : FrI L a T W1 := fun p hp => by
  obtain ⟨hb, ha, c, t', he, hT⟩ := h p hp
  refine ⟨blk_grown hb hg (fun e_ => ?_), ha, c, t', he, hT⟩
  obtain ⟨cells, hc⟩ := hty p.1 e_.symm
  rw [hb, he] at hc
  injection hc with hc
  injection hc with _ hc
  exact ht (hc ▸ hT)
theorem FrI_grown0 (h : FrI L a T W0) (hg : W0.grownBy W1 (Value.slice none 0 0).ownBlock) : FrI L a T W1 := fun p hp => ⟨blk_grown (h p hp).1 hg (by simp [Value.ownBlock]), (h p hp).2⟩
theorem FrI_get {g : Nat} {o : Obj} (h : FrI L a T W0) (hm : (g, o) ∈ L) : W0.heap[g]? = some o := (h _ hm).1
theorem FrI_nil : FrI [] a T W0 := fun p hp => by cases hp
theorem FrI_cons {g t : Nat} {c : Array Value} (h : FrI L a T W0) (hb : W0.heap[g]? = some (.cells c t (0, 0))) (hn : g ≠ a) (ht : t ∈ T) : FrI ((g, .cells c t (0, 0)) :: L) a T W0 := fun p hp => by
  rcases List.mem_cons.1 hp with rfl | hp
  · exact ⟨hb, hn, c, t, rfl, ht⟩
  · exact h p hp
theorem FrI_pack2 (h1 : W0.heap[g1]? = some (.cells c1 t1 (0, 0))) (h2 : W0.heap[g2]? = some (.cells c2 t2 (0, 0))) (n1 : g1 ≠ a) (n2 : g2 ≠ a) (T : List Nat) (m1 : t1 ∈ T) (m2 : t2 ∈ T) :
    ∃ L : List (Nat × Obj), FrI L a T W0 ∧ (g1, .cells c1 t1 (0, 0)) ∈ L ∧ (g2, .cells c2 t2 (0, 0)) ∈ L := ⟨_, FrI_cons (FrI_cons FrI_nil h2 n2 m2) h1 n1 m1, by simp, by simp⟩
theorem FrI_pack3 (h1 : W0.heap[g1]? = some (.cells c1 t1 (0, 0))) (h2 : W0.heap[g2]? = some (.cells c2 t2 (0, 0))) (h3 : W0.heap[g3]? = some (.cells c3 t3 (0, 0))) (n1 : g1 ≠ a) (n2 : g2 ≠ a) (n3 : g3 ≠ a) (T : List Nat) (m1 : t1 ∈ T) (m2 : t2 ∈ T) (m3 : t3 ∈ T) :
    ∃ L : List (Nat × Obj), FrI L a T W0 ∧ (g1, .cells c1 t1 (0, 0)) ∈ L ∧ (g2, .cells c2 t2 (0, 0)) ∈ L ∧ (g3, .cells c3 t3 (0, 0)) ∈ L := ⟨_, FrI_cons (FrI_cons (FrI_cons FrI_nil h3 n3 m3) h2 n2 m2) h1 n1 m1, by simp, by simp, by simp⟩
theorem FrI_pack4 (h1 : W0.heap[g1]? = some (.cells c1 t1 (0, 0))) (h2 : W0.heap[g2]? = some (.cells c2 t2 (0, 0))) (h3 : W0.heap[g3]? = some (.cells c3 t3 (0, 0))) (h4 : W0.heap[g4]? = some (.cells c4 t4 (0, 0))) (n1 : g1 ≠ a) (n2 : g2 ≠ a) (n3 : g3 ≠ a) (n4 : g4 ≠ a) (T : List Nat) (m1 : t1 ∈ T) (m2 : t2 ∈ T) (m3 : t3 ∈ T) (m4 : t4 ∈ T) :
    ∃ L : List (Nat × Obj), FrI L a T W0 ∧ (g1, .cells c1 t1 (0, 0)) ∈ L ∧ (g2, .cells c2 t2 (0, 0)) ∈ L ∧ (g3, .cells c3 t3 (0, 0)) ∈ L ∧ (g4, .cells c4 t4 (0, 0)) ∈ L := ⟨_, FrI_cons (FrI_cons (FrI_cons (FrI_cons FrI_nil h4 n4 m4) h3 n3 m3) h2 n2 m2) h1 n1 m1, by simp, by simp, by simp, by simp⟩
end
/-- Of what was there, nothing but the block g has changed. -/
def OnB (g : Nat) (W W2 : World) : Prop := W.heap.size ≤ W2.heap.size ∧ ∀ k, k < W.heap.size → k ≠ g → W2.heap[k]? = W.heap[k]?
theorem OnB_refl (g : Nat) (W : World) : OnB g W W := ⟨Nat.le_refl _, fun _ _ _ => rfl⟩
theorem OnB_set {g : Nat} {W W2 : World} (h : OnB g W W2) (j : Nat) (x : Value) : OnB g W (W2.setCell ⟨g, j, none⟩ x) := ⟨by simpa [World.setCell] using h.1, fun k hl hk => (Below.heap_setCell W2 ⟨g, j, none⟩ x k hk).trans (h.2 k hl hk)⟩
theorem OnB_below {g : Nat} {W W2 W3 : World} (h : OnB g W W2) (hb : Below W2.heap.size W2 W3) : OnB g W W3 := ⟨Nat.le_trans h.1 hb.size, fun k hl hk => (hb.block k (Nat.lt_of_lt_of_le hl h.1)).trans (h.2 k hl hk)⟩
theorem OnB_alloc {g : Nat} {W W2 : World} (h : OnB g W W2) (o : Obj) : OnB g W (W2.alloc o) := OnB_below h (below_alloc (Below.refl _ _) o)
theorem OnB_drewN {g : Nat} {W W2 : World} (h : OnB g W W2) (m : Nat) : OnB g W (W2.drewN m) := h
theorem OnB_drew {g : Nat} {W W2 : World} (h : OnB g W W2) : OnB g W W2.drew := h
theorem R_on {g : Nat} {W W2 : World} (h : Kd.R d e W base ok v xs) (hok : ∀ k, ok k → k ≠ g) (hW : OnB g W W2 := by repeat (first | (with_reducible refine OnB_set ?_ _ _) | (with_reducible refine OnB_alloc ?_ _) | (with_reducible refine OnB_drewN ?_ _) | (with_reducible refine OnB_drew ?_) | exact OnB_refl _ _)) : Kd.R d e W2 base ok v xs := Kd.R_step h (fun k ho hl => hW.2 k hl (hok k ho))
theorem S_on {g : Nat} {W W2 : World} (h : Kd.S d e W base ok v xs) (hok : ∀ k, ok k → k ≠ g) (hW : OnB g W W2 := by repeat (first | (with_reducible refine OnB_set ?_ _ _) | (with_reducible refine OnB_alloc ?_ _) | (with_reducible refine OnB_drewN ?_ _) | (with_reducible refine OnB_drew ?_) | exact OnB_refl _ _)) : Kd.S d e W2 base ok v xs := Kd.S_step h (fun k ho hl => hW.2 k hl (hok k ho))
theorem N_on {g : Nat} {W W2 : World} (h : Kd.N d e W base ok v xs) (hok : ∀ k, ok k → k ≠ g) (hW : OnB g W W2 := by repeat (first | (with_reducible refine OnB_set ?_ _ _) | (with_reducible refine OnB_alloc ?_ _) | (with_reducible refine OnB_drewN ?_ _) | (with_reducible refine OnB_drew ?_) | exact OnB_refl _ _)) : Kd.N d e W2 base ok v xs := Kd.N_step h (fun k ho hl => hW.2 k hl (hok k ho))
theorem V_on {g : Nat} {W W2 : World} (h : Kd.V d e W base ok v xs) (hok : ∀ k, ok k → k ≠ g) (hW : OnB g W W2 := by repeat (first | (with_reducible refine OnB_set ?_ _ _) | (with_reducible refine OnB_alloc ?_ _) | (with_reducible refine OnB_drewN ?_ _) | (with_reducible refine OnB_drew ?_) | exact OnB_refl _ _)) : Kd.V d e W2 base ok v xs := Kd.V_step h (fun k ho hl => hW.2 k hl (hok k ho))
theorem Q_on {g : Nat} {W W2 : World} (h : Kd.Q d e W base ok v xs) (hok : ∀ k, ok k → k ≠ g) (hW : OnB g W W2 := by repeat (first | (with_reducible refine OnB_set ?_ _ _) | (with_reducible refine OnB_alloc ?_ _) | (with_reducible refine OnB_drewN ?_ _) | (with_reducible refine OnB_drew ?_) | exact OnB_refl _ _)) : Kd.Q d e W2 base ok v xs := Kd.Q_step h (fun k ho hl => hW.2 k hl (hok k ho))
theorem cO {g g' i : Nat} {w w' : World} {v : Value} (nb : Aside0 (g ≠ g')) (on : OnB g' w w') (h : w.cell? ⟨g, i, none⟩ = some v) : w'.cell? ⟨g, i, none⟩ = some v := by
  have hl := World.block_lt_of_cell? _ _ h
  have e := on.2 g hl nb.out
  unfold World.cell? at h ⊢
  simp only [e]
  exact h
theorem cOp {p : Addr} {g' : Nat} {w w' : World} {v : Value} (nb : p.block ≠ g') (on : OnB g' w w') (h : w.cell? p = some v) : w'.cell? p = some v := by
  have hl := World.block_lt_of_cell? _ _ h
  have e := on.2 p.block hl nb
  unfold World.cell? at h ⊢
  simp only [e]
  exact h
theorem cOq {p : Addr} {g' : Nat} {w w' : World} {v : Value} (on : OnB g' w w') (h : w.cell? p = some v) (nb : p.block ≠ g') : w'.cell? p = some v := cOp nb on h
theorem cQ {W : World} {a : Addr} {g j : Nat} {u v : Value} (h : W.cell? a = some v) (nb : a.block ≠ g) : (W.setCell ⟨g, j, none⟩ u).cell? a = some v := (cell_far (p := ⟨g, j, none⟩) nb u).trans h
/-- An element that is read lies at none of the blocks that the row does not lead to. -/
theorem V_offI {α : Type} {d : Kd α} {e base n c g : Nat} {W : World} {ok : Nat → Prop} {ad : Addr} {xs : List α} (h : Kd.V d e W base ok (.slice (some ad) n c) xs) (hok : ∀ k, ok k → k ≠ g) (z : α) (i : Int) (h0 : 0 ≤ i) (h1 : i < xs.length) (hz : 0 < d.sz := by decide) : ad.block ≠ g := fun he => by
  have hF := (Kd.V_at h).2.2
  have hC := hF { W with heap := W.heap.setIfInBounds g (.cells #[] 0 (0, 0)) } (fun k hk _ => by
    show (W.heap.setIfInBounds g _)[k]? = _
    rw [Array.getElem?_setIfInBounds_ne (fun e_ => hok k hk e_.symm)])
  obtain ⟨ad', c', e', hl, _, hc⟩ := Kd.C_get hC z i h0 h1
  cases e'
  have h2 := hc 0 _ (List.getElem?_eq_getElem (by omega))
  unfold World.cell? at h2
  rw [add_block, he] at h2
  simp only [Array.getElem?_setIfInBounds_self] at h2
  split at h2
  · rename_i q; split at q <;> simp at q
    obtain ⟨rfl, _⟩ := q
    split at h2 <;> simp at h2
  · cases h2
theorem onW {g : Nat} {w w' : World} {p : Prop} (f : OnB g w w' → p) (hW : OnB g w w' := by repeat (first | (with_reducible exact OnB_refl _ _) | (with_reducible refine OnB_set ?_ _ _) | (with_reducible refine OnB_alloc ?_ _) | (with_reducible refine OnB_drewN ?_ _) | (with_reducible refine OnB_drew ?_))) : p := f hW
def OnL (l : List Nat) (W W2 : World) : Prop := W.heap.size ≤ W2.heap.size ∧ ∀ k, k < W.heap.size → k ∉ l → W2.heap[k]? = W.heap[k]?
theorem OnL_refl (l : List Nat) (W : World) : OnL l W W := ⟨Nat.le_refl _, fun _ _ _ => rfl⟩
theorem OnL_set {l : List Nat} {g : Nat} {W W2 : World} (h : OnL l W W2) (j : Nat) (x : Value) (hg : g ∈ l) : OnL l W (W2.setCell ⟨g, j, none⟩ x) := ⟨by simpa [World.setCell] using h.1, fun k hl hk => (Below.heap_setCell W2 ⟨g, j, none⟩ x k (fun e => hk (e ▸ hg))).trans (h.2 k hl hk)⟩
theorem OnL_below {l : List Nat} {W W2 W3 : World} (h : OnL l W W2) (hb : Below W2.heap.size W2 W3) : OnL l W W3 := ⟨Nat.le_trans h.1 hb.size, fun k hl hk => (hb.block k (Nat.lt_of_lt_of_le hl h.1)).trans (h.2 k hl hk)⟩
theorem OnL_alloc {l : List Nat} {W W2 : World} (h : OnL l W W2) (o : Obj) : OnL l W (W2.alloc o) := OnL_below h (below_alloc (Below.refl _ _) o)
theorem OnL_drewN {l : List Nat} {W W2 : World} (h : OnL l W W2) (m : Nat) : OnL l W (W2.drewN m) := h
theorem OnL_drew {l : List Nat} {W W2 : World} (h : OnL l W W2) : OnL l W W2.drew := h
section
variable {L : List (Nat × Obj)} {a : Nat} {T : List Nat} {W0 W1 W2 : World} {g t t2 : Nat} {c : Array Value} {x : Value} {l : List Nat}
/-- The variables that stand by are at none of these blocks. -/
def FrN (L : List (Nat × Obj)) (l : List Nat) : Prop := ∀ p ∈ L, p.1 ∉ l
theorem FrN0 (h : FrI L a T W0) : FrN L [a] := fun p hp => by simpa using (h p hp).2.1
theorem FrN1 (h : FrI L a T W0) (n : FrN L l) (hb : W0.heap[g]? = some (.cells c t (0, 0))) (hn : t ∉ T) : FrN L (g :: l) := fun p hp hm => by
  rcases List.mem_cons.1 hm with e | hm
  · obtain ⟨h1, _, c', t', he, hT⟩ := h p hp
    rw [e, hb, he] at h1
    injection h1 with h1; injection h1 with _ h1; subst h1; exact hn hT
  · exact n p hp hm
theorem FrI_self (h : FrI L a T W0) (n : FrN L l) (hW : OnL l W0 W1 := by repeat (first | (with_reducible exact OnL_refl _ _) | (with_reducible refine OnL_set ?_ _ _ (by simp)) | (with_reducible refine OnL_alloc ?_ _) | (with_reducible refine OnL_drewN ?_ _) | (with_reducible refine OnL_drew ?_))) : FrI L a T W1 := fun p hp => by
  obtain ⟨h1, ha, h2⟩ := h p hp
  refine ⟨(hW.2 p.1 ?_ (n p hp)).trans h1, ha, h2⟩
  rcases Nat.lt_or_ge p.1 W0.heap.size with y | y
  · exact y
  · rw [Array.getElem?_eq_none y] at h1; cases h1
theorem FrI_belowS (hb : Below W1.heap.size W1 W2) (h : FrI L a T W0) (n : FrN L l) (hW : OnL l W0 W1 := by repeat (first | (with_reducible exact OnL_refl _ _) | (with_reducible refine OnL_set ?_ _ _ (by simp)) | (with_reducible refine OnL_alloc ?_ _) | (with_reducible refine OnL_drewN ?_ _) | (with_reducible refine OnL_drew ?_))) : FrI L a T W2 := FrI_below (FrI_self h n hW) hb
theorem FrI_grownS (hg : W1.grownBy W2 x.ownBlock) (hty : ∀ k, x.ownBlock = some k → ∃ cells, W1.heap[k]? = some (.cells cells t2 (0, 0))) (ht : t2 ∉ T) (h : FrI L a T W0) (n : FrN L l) (hW : OnL l W0 W1 := by repeat (first | (with_reducible exact OnL_refl _ _) | (with_reducible refine OnL_set ?_ _ _ (by simp)) | (with_reducible refine OnL_alloc ?_ _) | (with_reducible refine OnL_drewN ?_ _) | (with_reducible refine OnL_drew ?_))) : FrI L a T W2 := FrI_grown (FrI_self h n hW) hg hty ht
theorem FrI_grown0S (hg : W1.grownBy W2 (Value.slice none 0 0).ownBlock) (h : FrI L a T W0) (n : FrN L l) (hW : OnL l W0 W1 := by repeat (first | (with_reducible exact OnL_refl _ _) | (with_reducible refine OnL_set ?_ _ _ (by simp)) | (with_reducible refine OnL_alloc ?_ _) | (with_reducible refine OnL_drewN ?_ _) | (with_reducible refine OnL_drew ?_))) : FrI L a T W2 := FrI_grown0 (FrI_self h n hW) hg
end
theorem blk_neT {W : World} {g1 g2 t1 t2 : Nat} {c1 c2 : Array Value} (h1 : W.heap[g1]? = some (.cells c1 t1 (0, 0))) (h2 : W.heap[g2]? = some (.cells c2 t2 (0, 0))) (hn : t1 ≠ t2) : g1 ≠ g2 := fun e => by
  rw [e, h2] at h1
  injection h1 with h1; injection h1 with _ h1; exact hn h1.symm
/-- An element taken apart from those ahead of it. -/
theorem S_split {ad : Addr} (h : Kd.S d e W base ok (.slice (some ad) n cap) xs) (z : α) (i : Int) (h0 : 0 ≤ i) (h1 : i < n) :
    ∃ c, c.length = d.sz ∧ ∃ okj : Nat → Prop, (∀ k, okj k → ok k ∧ some k ≠ (Value.slice (some ad) n cap).ownBlock) ∧ d.M W base okj (xs.getD i.toNat z) c ∧ (∀ j u, c[j]? = some u → W.cell? (ad.add (i.toNat * d.sz + j)) = some u) ∧ Kd.S d e W base (fun k => ok k ∧ ¬ okj k) (.slice (some ad) i.toNat cap) (xs.take i.toNat) := by
  obtain ⟨f, h⟩ := h
  obtain ⟨c, hc, hM, hcc⟩ := Kd.R_getA h (z, i.toNat) i h0 h1
  have hn : n = xs.length := by have := (Kd.R_reads' h).1; rwa [List.length_zipIdx] at this
  have hg : xs.zipIdx.getD i.toNat (z, i.toNat) = (xs.getD i.toNat z, i.toNat) := by
    rw [List.getD_eq_getElem?_getD, List.getElem?_zipIdx, List.getD_eq_getElem?_getD, Nat.zero_add]
    cases xs[i.toNat]? <;> rfl
  rw [hg] at hM
  refine ⟨c, hc, fun k => (ok k ∧ some k ≠ (Value.slice (some ad) n cap).ownBlock) ∧ f k = i.toNat, fun k hk => hk.1, hM, hcc, f, ?_⟩
  have ht := Kd.R_take h (m := i.toNat) (by rw [List.length_zipIdx]; omega)
  have he : (xs.take i.toNat).zipIdx = xs.zipIdx.take i.toNat := by
    apply List.ext_getElem?
    intro j
    simp only [List.getElem?_zipIdx, List.getElem?_take, Nat.zero_add]
    split <;> simp
  rw [he]
  obtain ⟨h0', inner, ho, hr⟩ := ht
  refine ⟨fun k hk => ⟨h0' k hk, fun hk2 => hk2.1.2 hk.symm⟩, inner, ho, hr.1, fun j p hj => ?_⟩
  refine d.M_mono (fun k hk => ⟨⟨⟨hk.1.1, fun h3 => ?_⟩, hk.1.2⟩, hk.2⟩) (hr.2 j p hj)
  have h4 : f k = p.2 := hk.2
  have h5 : f k = i.toNat := h3.2
  rw [List.getElem?_take] at hj
  split at hj
  · rename_i hlt
    rw [List.getElem?_zipIdx, Nat.zero_add] at hj
    obtain ⟨x, _, rfl⟩ := Option.map_eq_some_iff.1 hj
    have : f k = j := h4
    omega
  · cases hj
theorem S_spl {β : Type} {d' : Kd β} {e' b' : Nat} {oj : Nat → Prop} {ys : List β} (h : Kd.S d e W base (fun k => ok k ∧ ¬ oj k) v xs) (hg : Kd.R d' e' W b' oj u ys) : Kd.S d e W base (fun k => (ok k ∧ some k ≠ u.ownBlock) ∧ ¬ oj k) v xs :=
  Kd.S_mono h (fun k hk => ⟨⟨hk.1, fun he => hk.2 (hg.1 k he.symm)⟩, hk.2⟩)
theorem S_spd {oj : Nat → Prop} (h : Kd.S d e W base (fun k => ok k ∧ ¬ oj k) v xs) : Kd.S d e W base ok v xs := Kd.S_mono h (fun _ hk => hk.1)
/-- What was lent has been written. -/
theorem H_lent (h : Kd.H d e W base ok u xs i oki c) (hk : Kept W W2 oki) (hok : ∀ k, W.heap.size ≤ k → ok k) : Kd.H d e W2 base ok u xs i (fun k => oki k ∨ W.heap.size ≤ k) c := by
  obtain ⟨ho, f, hR⟩ := Kd.H_step (w1 := W2) (Kd.H_widen h) (fun k _ hn hlt => hk.2 k hlt (fun ho => hn (.inl ho)))
  exact ⟨fun k hk' => ho k (hk'.imp id (fun h2 => ⟨hok k h2, h2⟩)), f, Kd.R_mono hR (fun k hk' => ⟨hk'.1, fun h2 => hk'.2 (h2.imp id (fun h3 => ⟨hok k h3, h3⟩))⟩)⟩
/-- The lent element's cells. -/
theorem H_cells (h : Kd.H d e W base ok (.slice (some ⟨g, 0, none⟩) n cap) xs i oki c) (h0 : 0 ≤ i) (h1 : i < n) : (∀ j x, c[j]? = some x → W.cell? ⟨g, i.toNat * d.sz + j, none⟩ = some x) ∧ (∀ j, W.frozen? ⟨g, i.toNat * d.sz + j, none⟩ = false) := by
  obtain ⟨rows, _, hraw, hcl, hco, hcc, hback⟩ := Kd.H_raw h h0 h1
  obtain ⟨cells, hb⟩ := Kd.R_typed hraw g (by simp [Value.ownBlock])
  exact ⟨hcc, fun j => blk_frozen hb _⟩
theorem H_lt (h : Kd.H d e W base ok (.slice (some ⟨g, 0, none⟩) n cap) xs i oki c) (h0 : 0 ≤ i) (h1 : i < n) : g < W.heap.size := by
  obtain ⟨rows, _, hraw, _⟩ := Kd.H_raw h h0 h1
  obtain ⟨cells, hb⟩ := Kd.R_typed hraw g (by simp [Value.ownBlock])
  exact blk_lt hb
/-- One of them is written. -/
theorem H_put (h : Kd.H d e W base ok (.slice (some ⟨g, 0, none⟩) n cap) xs i oki c) (h0 : 0 ≤ i) (h1 : i < n) (j : Nat) (hj : j < d.sz) (hc : c.length = d.sz) (x : Value) (hx : x.oneCell' = true) :
    Kd.H d e (W.setCell ⟨g, i.toNat * d.sz + j, none⟩ x) base ok (.slice (some ⟨g, 0, none⟩) n cap) xs i oki (c.set j x) ∧ W.grownBy (W.setCell ⟨g, i.toNat * d.sz + j, none⟩ x) (some g) := by
  have hs := Kd.H_seg h h0 h1 (seg := [x]) (j := j) (by simp only [List.length_singleton]; omega) (by intro q hq; rw [List.mem_singleton.1 hq]; exact hx)
  have e : c.take j ++ [x] ++ c.drop (j + [x].length) = c.set j x := by
    rw [List.set_eq_take_append_cons_drop, if_pos (by omega)]; simp
  rw [e] at hs
  exact hs
end
section
open Classical in
/-- append(v, ys...), rows of rows whose elements lie apart: the blocks of ys are okp, none of them of v; its elements become those of v. -/
theorem S_append_rows {P : Program} {ops : Array Oper} {rest : List Oper} {o : Oper} {a : Act} {Q : Exit → Act → World → Prop} {α : Type} (d : Kd α) {w0 W : World} (base : Nat) (hgd : o.guard = none) (s x : Operand) (t e : TypeId) (z : Value) (bytes : Nat)
    (ho : o.op = .call { callee := .builtin .append, args := #[s, x], argTypes := #[t, t] })
    (ht : P.underlying t = some (.slice e)) (hinfo : (P.info? e).map (fun i => (i.zero, i.size, i.bytes)) = some (some z, d.sz, bytes)) (hz : z.cells.size = d.sz) (hs0 : 0 < d.sz) (hb0 : 0 < bytes)
    (v : Value) (xs ys : List α) (A : Option Addr) (m c : Nat) (ok okp : Nat → Prop) (hs : a.eval s = v) (hx : a.eval x = .slice A m c)
    (HO : Kd.S d e W base (fun k => ok k ∧ ¬ okp k) v xs) (HR : Kd.S d e W base okp (.slice A m c) ys) (hokp : ∀ k, okp k → ok k) (hfresh : ∀ k, W.heap.size ≤ k → ok k)
    (HB : Below base w0 W) (hbase : base ≤ W.heap.size) (hl : (xs.length + m) * bytes ≤ 140737488355328)
    (h : ∀ v1 w1, Kd.S d e w1 base ok v1 (xs ++ ys) → Below base w0 w1 → W.grownBy w1 v.ownBlock → (v1.ownBlock = v.ownBlock ∨ ∃ b, v1.ownBlock = some b ∧ W.heap.size ≤ b) → wpList P ops Q rest (a.put o.dst v1) w1) :
    wpList P ops Q (o :: rest) a W := by
  obtain ⟨hml, hmc, hC⟩ := Kd.S_reads' HR
  obtain ⟨f1, h1⟩ := HO
  obtain ⟨f2, h2⟩ := HR
  have hA : (Kd.tag (fun k => if okp k then xs.length + f2 k else f1 k) d).R e W base (fun k => ok k ∧ ¬ okp k) v xs.zipIdx := Kd.R_tag h1 (fun k hk _ => if_neg hk.2)
  have hR : ReadsRow (fun (y : α × Nat) cs => (Kd.tag (fun k => if okp k then xs.length + f2 k else f1 k) d).M W base okp y cs) d.sz W A m (ys.zipIdx xs.length) := by
    subst hml
    refine ⟨by rw [List.length_zipIdx], hC.2.1, fun hp => ?_⟩
    obtain ⟨ad, rfl, _⟩ := hC.2.2 hp
    refine ⟨ad, rfl, fun j p hj => ?_⟩
    rw [List.getElem?_zipIdx] at hj
    obtain ⟨y, hy, rfl⟩ := Option.map_eq_some_iff.1 hj
    have hjl := (List.getElem?_eq_some_iff.1 hy).1
    obtain ⟨cc, hcl, hM, hcc⟩ := Kd.R_getA h2 (y, j) (j : Int) (by omega) (by omega)
    have hyy : ys.zipIdx.getD ((j : Int)).toNat (y, j) = (y, j) := by
      rw [Int.toNat_natCast, List.getD_eq_getElem?_getD, List.getElem?_zipIdx, hy]; simp
    rw [hyy] at hM
    refine ⟨cc, hcl, d.M_mono (fun k hk => ⟨hk.1.1, ?_⟩) hM, fun i u hu => by have := hcc i u hu; rw [Int.toNat_natCast] at this; exact this⟩
    have hk2 : f2 k = j := hk.2
    show (if okp k then xs.length + f2 k else f1 k) = xs.length + j
    rw [if_pos hk.1.1, hk2]
  have hzz : (xs ++ ys).zipIdx = xs.zipIdx ++ ys.zipIdx xs.length := by rw [List.zipIdx_append]; simp
  refine Kd.R_append_rows (Kd.tag (fun k => if okp k then xs.length + f2 k else f1 k) d) base hgd s x t e z bytes ho ht hinfo hz hs0 hb0 v xs.zipIdx (ys.zipIdx xs.length) A m c ok okp hs hx (Kd.R_mono hA (fun _ hk => hk.1)) hR (fun _ _ hk => hk) (fun k hk => ⟨hokp k hk, fun hv => (h1.1 k hv.symm).2 hk⟩) hfresh HB hbase (by rw [List.length_zipIdx]; exact hl) ?_
  intro v1 w1 hr
  rw [← hzz] at hr
  exact h v1 w1 ⟨_, hr⟩
end
/-! What the fourth shortening (post.py) leaves in place of longer rows. -/
def mBl : Nat → Nat → List Bool
  | 0, _ => []
  | n + 1, m => (m % 2 == 1) :: mBl n (m / 2)
/-- Which of n operators are done, by the bits of a number. -/
def mB (n m : Nat) : Array Bool := (mBl n m).toArray
section
variable {α : Type} {d : Kd α} {e base : Nat} {w w' : World} {ok ok' : Nat → Prop} {v : Value} {l : List α} {g t g2 t2 : Nat} {cs cs2 : Array Value}
theorem sG (h : Aside0 (Kd.S d e w base ok v l)) (b : Aside0 (w.heap[g]? = some (.cells cs t (0, 0)))) (hq : ∀ q, q ∈ e :: d.E → q ≠ t := by decide) (p : Kd.S d e w base (fun k => ok k ∧ k ≠ g) v l → Kd.S d e w' base (fun k => ok k ∧ k ≠ g) v l := by intro h_; (repeat (first | (with_reducible exact h_) | (with_reducible refine Kd.S_far ?_ (fun _ hk => hk.2) _) | (with_reducible apply Kd.S_alloc) | (with_reducible apply Kd.S_drewN) | (with_reducible apply Kd.S_drew))); all_goals exact h_) : Kd.S d e w' base ok v l := Kd.S_mono (p (Kd.S_types h.out b.out hq)) (fun _ h => h.1)
theorem rG (h : Aside0 (Kd.R d e w base ok v l)) (b : Aside0 (w.heap[g]? = some (.cells cs t (0, 0)))) (hq : ∀ q, q ∈ e :: d.E → q ≠ t := by decide) (p : Kd.R d e w base (fun k => ok k ∧ k ≠ g) v l → Kd.R d e w' base (fun k => ok k ∧ k ≠ g) v l := by intro h_; (repeat (first | (with_reducible exact h_) | (with_reducible refine Kd.R_far ?_ (fun _ hk => hk.2) _) | (with_reducible apply Kd.R_alloc) | (with_reducible apply Kd.R_drewN) | (with_reducible apply Kd.R_drew))); all_goals exact h_) : Kd.R d e w' base ok v l := Kd.R_mono (p (Kd.R_types h.out b.out hq)) (fun _ h => h.1)
theorem sH (h : Aside0 (Kd.S d e w base ok v l)) (b : Aside0 (w.heap[g]? = some (.cells cs t (0, 0)))) (b2 : Aside0 (w.heap[g2]? = some (.cells cs2 t2 (0, 0)))) (hq : ∀ q, q ∈ e :: d.E → q ≠ t := by decide) (hq2 : ∀ q, q ∈ e :: d.E → q ≠ t2 := by decide) (p : Kd.S d e w base (fun k => (ok k ∧ k ≠ g) ∧ k ≠ g2) v l → Kd.S d e w' base (fun k => (ok k ∧ k ≠ g) ∧ k ≠ g2) v l := by intro h_; (repeat (first | (with_reducible exact h_) | (with_reducible refine Kd.S_far ?_ (fun _ hk => hk.2) _) | (with_reducible refine Kd.S_far ?_ (fun _ hk => hk.1.2) _) | (with_reducible apply Kd.S_alloc) | (with_reducible apply Kd.S_drewN) | (with_reducible apply Kd.S_drew))); all_goals exact h_) : Kd.S d e w' base ok v l := Kd.S_mono (p (Kd.S_types (Kd.S_types h.out b.out hq) b2.out hq2)) (fun _ h => h.1.1)
theorem rH (h : Aside0 (Kd.R d e w base ok v l)) (b : Aside0 (w.heap[g]? = some (.cells cs t (0, 0)))) (b2 : Aside0 (w.heap[g2]? = some (.cells cs2 t2 (0, 0)))) (hq : ∀ q, q ∈ e :: d.E → q ≠ t := by decide) (hq2 : ∀ q, q ∈ e :: d.E → q ≠ t2 := by decide) (p : Kd.R d e w base (fun k => (ok k ∧ k ≠ g) ∧ k ≠ g2) v l → Kd.R d e w' base (fun k => (ok k ∧ k ≠ g) ∧ k ≠ g2) v l := by intro h_; (repeat (first | (with_reducible exact h_) | (with_reducible refine Kd.R_far ?_ (fun _ hk => hk.2) _) | (with_reducible refine Kd.R_far ?_ (fun _ hk => hk.1.2) _) | (with_reducible apply Kd.R_alloc) | (with_reducible apply Kd.R_drewN) | (with_reducible apply Kd.R_drew))); all_goals exact h_) : Kd.R d e w' base ok v l := Kd.R_mono (p (Kd.R_types (Kd.R_types h.out b.out hq) b2.out hq2)) (fun _ h => h.1.1)
theorem sM (h : Aside0 (Kd.S d e w base ok v l)) (m : ∀ k, ok k → ok' k := by intro _ hk; first | exact hk | exact trivial | (simp only [hk, ne_eq, not_false_eq_true, and_self])) (p : Kd.S d e w base ok' v l → Kd.S d e w' base ok' v l := by intro h_; (with_reducible repeat (first | apply Kd.S_alloc | apply Kd.S_drewN | apply Kd.S_drew)); exact h_) : Kd.S d e w' base ok' v l := p (Kd.S_mono h.out m)
theorem rM (h : Aside0 (Kd.R d e w base ok v l)) (m : ∀ k, ok k → ok' k := by intro _ hk; first | exact hk | exact trivial | (simp only [hk, ne_eq, not_false_eq_true, and_self])) (p : Kd.R d e w base ok' v l → Kd.R d e w' base ok' v l := by intro h_; (with_reducible repeat (first | apply Kd.R_alloc | apply Kd.R_drewN | apply Kd.R_drew)); exact h_) : Kd.R d e w' base ok' v l := p (Kd.R_mono h.out m)
end
theorem cF {g g' i : Nat} {w w' : World} {v : Value} (nb : Aside0 (g ≠ g')) (h : w.cell? ⟨g, i, none⟩ = some v) (p : g ≠ g' → w.cell? ⟨g, i, none⟩ = some v → w'.cell? ⟨g, i, none⟩ = some v := by intro n_ h_; (repeat (first | (with_reducible exact h_) | (with_reducible refine Eq.trans (cell_far (p := ⟨_, _, none⟩) (a := ⟨_, _, none⟩) n_ _) ?_))); all_goals exact h_) : w'.cell? ⟨g, i, none⟩ = some v := p nb.out h
theorem cC {α : Type} {K : Kd α} {A : Option Addr} {n : Nat} {l : List α} {w w1 w' : World} (h : Aside0 (Kd.C K w A n l)) (hb : Aside0 (Below w.heap.size w w1)) (p : Kd.C K w1 A n l → Kd.C K w' A n l := by intro h_; (repeat (first | (with_reducible exact h_) | (with_reducible refine Kd.C_alloc ?_ _) | (with_reducible refine Kd.C_drewN ?_ _) | (with_reducible refine Kd.C_drew ?_))); all_goals exact h_) : Kd.C K w' A n l := p (Kd.C_below h.out hb.out)
theorem kB_ {W w1 : World} (g : Nat) {o : Obj} (hb : Below W.heap.size W w1) (h : W.heap[g]? = some o := by exact kS) : Aside0 (w1.heap[g]? = some o) := ⟨blk_below h hb⟩
theorem nL_ {W : World} (g : Nat) {g' : Nat} {o : Obj} (hg : g' = W.heap.size) (h : W.heap[g]? = some o := by exact kS) : Aside0 (g ≠ g') := nL hg h
theorem nG_ {W : World} (g : Nat) {g' : Nat} {o : Obj} (hg : g' = W.heap.size) (h : W.heap[g]? = some o := by exact kS) : Aside0 (g' ≠ g) := nG hg h
theorem kO {W w1 : World} (g : Nat) (cs : Array Value) (t : Nat) (hb : Below W.heap.size W w1) (h : W.heap[g]? = some (.cells cs t (0, 0)) := by exact kS) : Aside0 (w1.heap[g]? = some (.cells cs t (0, 0))) := ⟨blk_below h hb⟩
/-- A block of another type is not what was lent. -/
theorem typed1 {W : World} {g t : Nat} {cs : Array Value} {fr : Nat × Nat} {L : List Nat} (hb : W.heap[g]? = some (.cells cs t fr)) (hp : ∃ q, q ∈ L ∧ ∃ c, W.heap[g]? = some (.cells c q (0, 0))) (hn : ∀ q, q ∈ L → q ≠ t) : False := by
  obtain ⟨q, hq, c, hc⟩ := hp
  rw [hb] at hc
  injection hc with hc
  injection hc with _ ht
  exact hn q hq ht.symm
theorem bM {W W1 : World} {S : Nat → Prop} {g : Nat} {o : Obj} (hkp : Kept W W1 S) (h : W.heap[g]? = some o := by exact kS) (q : ¬ S g := by
  intro hs_
  repeat' (first | exact typed1 (by exact Aside0.out (by assumption)) (And.right hs_) (by decide) | exact typed1 (by exact Aside0.out (by assumption)) (And.right (And.left hs_)) (by decide) | (simp only [ne_eq, not_true_eq_false, and_false, false_and] at hs_; done) | (refine Or.elim hs_ ?_ ?_ <;> clear hs_ <;> intro hs_))) : Aside0 (W1.heap[g]? = some o) := ⟨blk_kept h hkp q⟩
theorem cg0 {W : World} {g t : Nat} {x0 : Value} {l : List Value} (h : Aside0 (W.heap[g]? = some (.cells (x0 :: l).toArray t (0, 0)))) : W.cell? ⟨g, 0, none⟩ = some x0 := (blk_cell h.out 0).trans (by simp)
theorem cg1 {W : World} {g t : Nat} {x0 x1 : Value} {l : List Value} (h : Aside0 (W.heap[g]? = some (.cells (x0 :: x1 :: l).toArray t (0, 0)))) : W.cell? ⟨g, 1, none⟩ = some x1 := (blk_cell h.out 1).trans (by simp)
theorem cg2 {W : World} {g t : Nat} {x0 x1 x2 : Value} {l : List Value} (h : Aside0 (W.heap[g]? = some (.cells (x0 :: x1 :: x2 :: l).toArray t (0, 0)))) : W.cell? ⟨g, 2, none⟩ = some x2 := (blk_cell h.out 2).trans (by simp)
theorem cg3 {W : World} {g t : Nat} {x0 x1 x2 x3 : Value} {l : List Value} (h : Aside0 (W.heap[g]? = some (.cells (x0 :: x1 :: x2 :: x3 :: l).toArray t (0, 0)))) : W.cell? ⟨g, 3, none⟩ = some x3 := (blk_cell h.out 3).trans (by simp)
theorem cg4 {W : World} {g t : Nat} {x0 x1 x2 x3 x4 : Value} {l : List Value} (h : Aside0 (W.heap[g]? = some (.cells (x0 :: x1 :: x2 :: x3 :: x4 :: l).toArray t (0, 0)))) : W.cell? ⟨g, 4, none⟩ = some x4 := (blk_cell h.out 4).trans (by simp)
theorem cg5 {W : World} {g t : Nat} {x0 x1 x2 x3 x4 x5 : Value} {l : List Value} (h : Aside0 (W.heap[g]? = some (.cells (x0 :: x1 :: x2 :: x3 :: x4 :: x5 :: l).toArray t (0, 0)))) : W.cell? ⟨g, 5, none⟩ = some x5 := (blk_cell h.out 5).trans (by simp)
theorem cg6 {W : World} {g t : Nat} {x0 x1 x2 x3 x4 x5 x6 : Value} {l : List Value} (h : Aside0 (W.heap[g]? = some (.cells (x0 :: x1 :: x2 :: x3 :: x4 :: x5 :: x6 :: l).toArray t (0, 0)))) : W.cell? ⟨g, 6, none⟩ = some x6 := (blk_cell h.out 6).trans (by simp)
theorem cg7 {W : World} {g t : Nat} {x0 x1 x2 x3 x4 x5 x6 x7 : Value} {l : List Value} (h : Aside0 (W.heap[g]? = some (.cells (x0 :: x1 :: x2 :: x3 :: x4 :: x5 :: x6 :: x7 :: l).toArray t (0, 0)))) : W.cell? ⟨g, 7, none⟩ = some x7 := (blk_cell h.out 7).trans (by simp)
theorem cg8 {W : World} {g t : Nat} {x0 x1 x2 x3 x4 x5 x6 x7 x8 : Value} {l : List Value} (h : Aside0 (W.heap[g]? = some (.cells (x0 :: x1 :: x2 :: x3 :: x4 :: x5 :: x6 :: x7 :: x8 :: l).toArray t (0, 0)))) : W.cell? ⟨g, 8, none⟩ = some x8 := (blk_cell h.out 8).trans (by simp)
theorem cg9 {W : World} {g t : Nat} {x0 x1 x2 x3 x4 x5 x6 x7 x8 x9 : Value} {l : List Value} (h : Aside0 (W.heap[g]? = some (.cells (x0 :: x1 :: x2 :: x3 :: x4 :: x5 :: x6 :: x7 :: x8 :: x9 :: l).toArray t (0, 0)))) : W.cell? ⟨g, 9, none⟩ = some x9 := (blk_cell h.out 9).trans (by simp)
theorem cg10 {W : World} {g t : Nat} {x0 x1 x2 x3 x4 x5 x6 x7 x8 x9 x10 : Value} {l : List Value} (h : Aside0 (W.heap[g]? = some (.cells (x0 :: x1 :: x2 :: x3 :: x4 :: x5 :: x6 :: x7 :: x8 :: x9 :: x10 :: l).toArray t (0, 0)))) : W.cell? ⟨g, 10, none⟩ = some x10 := (blk_cell h.out 10).trans (by simp)
theorem cg11 {W : World} {g t : Nat} {x0 x1 x2 x3 x4 x5 x6 x7 x8 x9 x10 x11 : Value} {l : List Value} (h : Aside0 (W.heap[g]? = some (.cells (x0 :: x1 :: x2 :: x3 :: x4 :: x5 :: x6 :: x7 :: x8 :: x9 :: x10 :: x11 :: l).toArray t (0, 0)))) : W.cell? ⟨g, 11, none⟩ = some x11 := (blk_cell h.out 11).trans (by simp)
theorem cg12 {W : World} {g t : Nat} {x0 x1 x2 x3 x4 x5 x6 x7 x8 x9 x10 x11 x12 : Value} {l : List Value} (h : Aside0 (W.heap[g]? = some (.cells (x0 :: x1 :: x2 :: x3 :: x4 :: x5 :: x6 :: x7 :: x8 :: x9 :: x10 :: x11 :: x12 :: l).toArray t (0, 0)))) : W.cell? ⟨g, 12, none⟩ = some x12 := (blk_cell h.out 12).trans (by simp)
end Go.Proofs.YtpickbenfkcpmaaW.PrintMore
