/- Words of the fifth shortening (post3.py): facts carried to a later world, each by one word. -/
import Derived.Test.YtjkgponlahfnjaaGreatLend
set_option linter.unusedVariables false
namespace Go.Proofs.YtjkgponlahfnjaaGreatW.PrintMore
open Go.RowKit Go.Proofs.YtjkgponlahfnjaaGreatW.PrintWords Go.Proofs.YtjkgponlahfnjaaGreatW.PrintLast
section
variable {α : Type} {d : Kd α} {e base base' g : Nat} {w w1 w2 : World} {ok ok' : Nat → Prop} {v u u1 u2 u3 u4 : Value} {xs : List α} {N : Nat}
theorem V_onL (l : List Nat) (h : Kd.V d e w base ok v xs) (hok : ∀ k, ok k → k ∉ l) (hW : OnL l w w1) : Kd.V d e w1 base ok v xs := Kd.V_step h (fun k hk hl => hW.2 k hl (hok k hk))
theorem vS (l : List Nat) (h : Aside0 (Kd.V d e w base ok v xs)) (hok : ∀ k, ok k → k ∉ l := by intro k_ hk_ hm_; simp only [List.mem_cons, List.not_mem_nil, or_false] at hm_ <;> first | (simp [hm_] at hk_; done) | (rcases hm_ with hm_ | hm_ <;> (simp [hm_] at hk_; done)) | (rcases hm_ with hm_ | hm_ | hm_ <;> (simp [hm_] at hk_; done))) (hW : OnL l w w1 := by repeat (first | (with_reducible exact OnL_refl _ _) | (with_reducible refine OnL_set ?_ _ _ (by simp)) | (with_reducible refine OnL_alloc ?_ _) | (with_reducible refine OnL_drewN ?_ _) | (with_reducible refine OnL_drew ?_))) : Kd.V d e w1 base ok v xs := V_onL l h.out hok hW
theorem vC {A : Option Addr} {n c : Nat} (l : List Nat) (h : Aside0 (Kd.V d e w base ok (.slice A n c) xs)) (hok : ∀ k, ok k → k ∉ l := by intro k_ hk_ hm_; simp only [List.mem_cons, List.not_mem_nil, or_false] at hm_ <;> first | (simp [hm_] at hk_; done) | (rcases hm_ with hm_ | hm_ <;> (simp [hm_] at hk_; done)) | (rcases hm_ with hm_ | hm_ | hm_ <;> (simp [hm_] at hk_; done))) (hW : OnL l w w1 := by repeat (first | (with_reducible exact OnL_refl _ _) | (with_reducible refine OnL_set ?_ _ _ (by simp)) | (with_reducible refine OnL_alloc ?_ _) | (with_reducible refine OnL_drewN ?_ _) | (with_reducible refine OnL_drew ?_))) : d.C w1 A xs.length xs := (Kd.V_reads' (V_onL l h.out hok hW)).2.2
theorem rB (h : Aside0 (Kd.R d e w base ok v xs)) (hb : Below w1.heap.size w1 w2) (p : Kd.R d e w base ok v xs → Kd.R d e w1 base ok v xs := by intro h_; (with_reducible repeat (first | apply Kd.R_alloc | apply Kd.R_drewN | apply Kd.R_drew)); exact h_) : Aside0 (Kd.R d e w2 base ok v xs) := ⟨Kd.R_below (p h.out) hb⟩
theorem rD (h : Aside0 (Kd.R d e w base ok v xs)) : Aside0 (Kd.R d e w.drew base ok v xs) := ⟨Kd.R_drew h.out⟩
theorem sD (h : Aside0 (Kd.S d e w base ok v xs)) : Aside0 (Kd.S d e w.drew base ok v xs) := ⟨Kd.S_drew h.out⟩
theorem vD (h : Aside0 (Kd.V d e w base ok v xs)) : Aside0 (Kd.V d e w.drew base ok v xs) := ⟨Kd.V_drew h.out⟩
theorem bD {o : Obj} (h : Aside0 (w.heap[g]? = some o)) : Aside0 (w.drew.heap[g]? = some o) := ⟨blk_drew h.out⟩
theorem hD {w0 : World} {B : Nat} (h : Aside0 (Below B w0 w)) : Aside0 (Below B w0 w.drew) := ⟨below_drew1 h.out⟩
theorem nP {p q : Prop} (h : Aside0 p) (h2 : Aside0 q) : p ∧ q := ⟨h.out, h2.out⟩
theorem vB (h : Kd.V d e w base ok v xs) (hb : Below w.heap.size w w2) : Aside0 (Kd.V d e w2 base ok v xs) := ⟨Kd.V_below h hb⟩
theorem vE (h : Kd.V d e w base ok v xs) (hg : g = w.heap.size) (hb : Below w.heap.size w w2) : Aside0 (Kd.V d e w2 base (fun k => ok k ∧ k ≠ g) v xs) := ⟨Kd.V_below (Kd.V_elderB h g (Nat.le_of_eq hg.symm)) hb⟩
theorem kfin {t : Nat} {cs cs' : Array Value} (h : w.heap[g]? = some (.cells cs t (0, 0))) (e : cs = cs') : w.heap[g]? = some (.cells cs' t (0, 0)) := e ▸ h
theorem kset {t : Nat} {cs : Array Value} (h : w.heap[g]? = some (.cells cs t (0, 0))) (i : Nat) (x : Value) : (w.setCell ⟨g, i, none⟩ x).heap[g]? = some (.cells (cs.setIfInBounds i x) t (0, 0)) := blk_put h i x rfl
theorem kQ {t : Nat} {cs cs' : Array Value} (h : Aside0 (w.heap[g]? = some (.cells cs t (0, 0)))) (p : w.heap[g]? = some (.cells cs t (0, 0)) → w1.heap[g]? = some (.cells cs' t (0, 0)) := by intro h_; apply kfin; (repeat (first | (with_reducible exact h_) | (with_reducible apply kset) | (with_reducible refine blk_drewN ?_ _) | (with_reducible refine blk_drew ?_) | (with_reducible refine blk_alloc ?_ _))); first | (with_reducible rfl) | simp only [List.setIfInBounds_toArray, List.set_cons_zero, List.set_cons_succ]) : w1.heap[g]? = some (.cells cs' t (0, 0)) := p h.out
end
theorem eqT {a b : List UInt8} (h : a = b) : (a == b) = true ∧ (a != b) = false := ⟨beq_iff_eq.mpr h, bne_eq_false_iff_eq.mpr h⟩
theorem eqF {a b : List UInt8} (h : ¬ a = b) : (a == b) = false ∧ (a != b) = true := ⟨beq_eq_false_iff_ne.mpr h, bne_iff_ne.mpr h⟩
end Go.Proofs.YtjkgponlahfnjaaGreatW.PrintMore
