/- Words for rows of rows: an element is lent to what writes it, and put back. -/
import Derived.Test.YtimpejidlnjhlaaShort
import Derived.Laws.CopyOwn
import Derived.Deep.RegionLaw
set_option linter.unusedVariables false
namespace Go.Proofs.YtimpejidlnjhlaaW.PrintMore
open Go.RowKit Go.Proofs.YtimpejidlnjhlaaW.PrintWords Go.Proofs.YtimpejidlnjhlaaW.PrintLast
section
variable {α : Type} {d : Kd α} {e base n cap g : Nat} {W W2 : World} {ok oki : Nat → Prop} {u v : Value} {xs : List α} {i : Int} {c : List Value}
/-- A row of rows that was just made, its begin by a letter. -/
theorem S_born {w2 : World} {N : Nat} (h : Kd.S d e w2 N ok u xs) : ∃ b : Nat, Aside0 (b = N) ∧ Kd.S d e w2 b ok u xs := ⟨_, ⟨rfl⟩, h⟩
/-- An elder one lies below what is new. -/
theorem S_oldB {b : Nat} (h : Kd.S d e W base ok u xs) (hb : Below W.heap.size W W2) (hz : b = W.heap.size) : Kd.S d e W2 base (fun k => ok k ∧ k < b) u xs := by subst hz; exact Kd.S_old h hb
theorem S_ltB {N b b2 : Nat} (h : Kd.S d e W base (fun k => ok k ∧ k < b) u xs) (h1 : b = N) (h2 : b2 = N) : Kd.S d e W base (fun k => (ok k ∧ k < b) ∧ k < b2) u xs := Kd.S_mono h (fun k hk => ⟨hk, by have := hk.2; omega⟩)
theorem R_born {w2 : World} {N : Nat} (h : Kd.R d e w2 N ok u xs) : ∃ b : Nat, Aside0 (b = N) ∧ Kd.R d e w2 b ok u xs := ⟨_, ⟨rfl⟩, h⟩
theorem R_oldB {b : Nat} (h : Kd.R d e W base ok u xs) (hb : Below W.heap.size W W2) (hz : b = W.heap.size) : Kd.R d e W2 base (fun k => ok k ∧ k < b) u xs := by subst hz; exact Kd.R_old h hb
theorem R_ltB {N b b2 : Nat} (h : Kd.R d e W base (fun k => ok k ∧ k < b) u xs) (h1 : b = N) (h2 : b2 = N) : Kd.R d e W base (fun k => (ok k ∧ k < b) ∧ k < b2) u xs := Kd.R_mono h (fun k hk => ⟨hk, by have := hk.2; omega⟩)
theorem S_not (P : Nat → Prop) (h : Kd.S d e W base ok u xs) (hn : ∀ k, (ok k ∧ base ≤ k ∧ k < W.heap.size ∧ ∃ q, q ∈ e :: d.E ∧ ∃ cells, W.heap[k]? = some (.cells cells q (0, 0))) → P k → False) : Kd.S d e W base (fun k => ok k ∧ ¬ P k) u xs := Kd.S_mono (Kd.S_bound h) (fun k hk => ⟨hk.1, hn k hk⟩)
theorem R_not (P : Nat → Prop) (h : Kd.R d e W base ok u xs) (hn : ∀ k, (ok k ∧ base ≤ k ∧ k < W.heap.size ∧ ∃ q, q ∈ e :: d.E ∧ ∃ cells, W.heap[k]? = some (.cells cells q (0, 0))) → P k → False) : Kd.R d e W base (fun k => ok k ∧ ¬ P k) u xs := Kd.R_mono (Kd.R_bound h) (fun k hk => ⟨hk.1, hn k hk⟩)
/-- What was lent has been written. -/
theorem H_lent (h : Kd.H d e W base ok u xs i oki c) (hk : Kept W W2 oki) (hok : ∀ k, W.heap.size ≤ k → ok k) : Kd.H d e W2 base ok u xs i (fun k => oki k ∨ W.heap.size ≤ k) c := by
  obtain ⟨ho, f, hR⟩ := Kd.H_step (w1 := W2) (Kd.H_widen h) (fun k _ hn hlt => hk.2 k hlt (fun ho => hn (.inl ho)))
  exact ⟨fun k hk' => ho k (hk'.imp id (fun h2 => ⟨hok k h2, h2⟩)), f, Kd.R_mono hR (fun k hk' => ⟨hk'.1, fun h2 => hk'.2 (h2.imp id (fun h3 => ⟨hok k h3, h3⟩))⟩)⟩
/-- The lent element's cells. -/
theorem H_cells (h : Kd.H d e W base ok (.slice (some ⟨g, 0, none⟩) n cap) xs i oki c) (h0 : 0 ≤ i) (h1 : i < n) : (∀ j x, c[j]? = some x → W.cell? ⟨g, i.toNat * d.sz + j, none⟩ = some x) ∧ (∀ j, W.frozen? ⟨g, i.toNat * d.sz + j, none⟩ = false) := by
  obtain ⟨rows, _, hraw, hcl, hco, hcc, hback⟩ := Kd.H_raw h h0 h1
  obtain ⟨cells, hb⟩ := Kd.R_typed hraw g (by simp [Value.ownBlock])
  exact ⟨hcc, fun j => blk_frozen hb _⟩
theorem H_lt (h : Kd.H d e W base ok (.slice (some ⟨g, 0, none⟩) n cap) xs i oki c) (h0 : 0 ≤ i) (h1 : i < n) : g < W.heap.size := by
  obtain ⟨rows, _, hraw, _⟩ := Kd.H_raw h h0 h1
  obtain ⟨cells, hb⟩ := Kd.R_typed hraw g (by simp [Value.ownBlock])
  exact blk_lt hb
/-- One of them is written. -/
theorem H_put (h : Kd.H d e W base ok (.slice (some ⟨g, 0, none⟩) n cap) xs i oki c) (h0 : 0 ≤ i) (h1 : i < n) (j : Nat) (hj : j < d.sz) (hc : c.length = d.sz) (x : Value) (hx : x.oneCell' = true) :
    Kd.H d e (W.setCell ⟨g, i.toNat * d.sz + j, none⟩ x) base ok (.slice (some ⟨g, 0, none⟩) n cap) xs i oki (c.set j x) ∧ W.grownBy (W.setCell ⟨g, i.toNat * d.sz + j, none⟩ x) (some g) := by
  have hs := Kd.H_seg h h0 h1 (seg := [x]) (j := j) (by simp only [List.length_singleton]; omega) (by intro q hq; rw [List.mem_singleton.1 hq]; exact hx)
  have e : c.take j ++ [x] ++ c.drop (j + [x].length) = c.set j x := by
    rw [List.set_eq_take_append_cons_drop, if_pos (by omega)]; simp
  rw [e] at hs
  exact hs
end
section
open Classical in
/-- append(v, ys...), rows of rows whose elements lie apart: the blocks of ys are okp, none of them of v; its elements become those of v. -/
theorem S_append_rows {P : Program} {ops : Array Oper} {rest : List Oper} {o : Oper} {a : Act} {Q : Exit → Act → World → Prop} {α : Type} (d : Kd α) {w0 W : World} (base : Nat) (hgd : o.guard = none) (s x : Operand) (t e : TypeId) (z : Value) (bytes : Nat)
    (ho : o.op = .call { callee := .builtin .append, args := #[s, x], argTypes := #[t, t] })
    (ht : P.underlying t = some (.slice e)) (hinfo : (P.info? e).map (fun i => (i.zero, i.size, i.bytes)) = some (some z, d.sz, bytes)) (hz : z.cells.size = d.sz) (hs0 : 0 < d.sz) (hb0 : 0 < bytes)
    (v : Value) (xs ys : List α) (A : Option Addr) (m c : Nat) (ok okp : Nat → Prop) (hs : a.eval s = v) (hx : a.eval x = .slice A m c)
    (HO : Kd.S d e W base (fun k => ok k ∧ ¬ okp k) v xs) (HR : Kd.S d e W base okp (.slice A m c) ys) (hokp : ∀ k, okp k → ok k) (hfresh : ∀ k, W.heap.size ≤ k → ok k)
    (HB : Below base w0 W) (hbase : base ≤ W.heap.size) (hl : (xs.length + m) * bytes ≤ 140737488355328)
    (h : ∀ v1 w1, Kd.S d e w1 base ok v1 (xs ++ ys) → Below base w0 w1 → W.grownBy w1 v.ownBlock → (v1.ownBlock = v.ownBlock ∨ ∃ b, v1.ownBlock = some b ∧ W.heap.size ≤ b) → wpList P ops Q rest (a.put o.dst v1) w1) :
    wpList P ops Q (o :: rest) a W := by
  obtain ⟨hml, hmc, hC⟩ := Kd.S_reads' HR
  obtain ⟨f1, h1⟩ := HO
  obtain ⟨f2, h2⟩ := HR
  have hA : (Kd.tag (fun k => if okp k then xs.length + f2 k else f1 k) d).R e W base (fun k => ok k ∧ ¬ okp k) v xs.zipIdx := Kd.R_tag h1 (fun k hk _ => if_neg hk.2)
  have hR : ReadsRow (fun (y : α × Nat) cs => (Kd.tag (fun k => if okp k then xs.length + f2 k else f1 k) d).M W base okp y cs) d.sz W A m (ys.zipIdx xs.length) := by
    subst hml
    refine ⟨by rw [List.length_zipIdx], hC.2.1, fun hp => ?_⟩
    obtain ⟨ad, rfl, _⟩ := hC.2.2 hp
    refine ⟨ad, rfl, fun j p hj => ?_⟩
    rw [List.getElem?_zipIdx] at hj
    obtain ⟨y, hy, rfl⟩ := Option.map_eq_some_iff.1 hj
    have hjl := (List.getElem?_eq_some_iff.1 hy).1
    obtain ⟨cc, hcl, hM, hcc⟩ := Kd.R_getA h2 (y, j) (j : Int) (by omega) (by omega)
    have hyy : ys.zipIdx.getD ((j : Int)).toNat (y, j) = (y, j) := by
      rw [Int.toNat_natCast, List.getD_eq_getElem?_getD, List.getElem?_zipIdx, hy]; simp
    rw [hyy] at hM
    refine ⟨cc, hcl, d.M_mono (fun k hk => ⟨hk.1.1, ?_⟩) hM, fun i u hu => by have := hcc i u hu; rw [Int.toNat_natCast] at this; exact this⟩
    have hk2 : f2 k = j := hk.2
    show (if okp k then xs.length + f2 k else f1 k) = xs.length + j
    rw [if_pos hk.1.1, hk2]
  have hzz : (xs ++ ys).zipIdx = xs.zipIdx ++ ys.zipIdx xs.length := by rw [List.zipIdx_append]; simp
  refine Kd.R_append_rows (Kd.tag (fun k => if okp k then xs.length + f2 k else f1 k) d) base hgd s x t e z bytes ho ht hinfo hz hs0 hb0 v xs.zipIdx (ys.zipIdx xs.length) A m c ok okp hs hx (Kd.R_mono hA (fun _ hk => hk.1)) hR (fun _ _ hk => hk) (fun k hk => ⟨hokp k hk, fun hv => (h1.1 k hv.symm).2 hk⟩) hfresh HB hbase (by rw [List.length_zipIdx]; exact hl) ?_
  intro v1 w1 hr
  rw [← hzz] at hr
  exact h v1 w1 ⟨_, hr⟩
end
end Go.Proofs.YtimpejidlnjhlaaW.PrintMore
