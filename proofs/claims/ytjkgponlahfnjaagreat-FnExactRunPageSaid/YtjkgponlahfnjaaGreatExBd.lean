/- A page in memory: its four rows lie in blocks of four colours, so that none of them touches another. -/
import Derived.Test.YtjkgponlahfnjaaGreatPureFnExactRunPage
import Derived.Test.YtjkgponlahfnjaaGreatPost
set_option linter.unusedVariables false
set_option linter.unusedSimpArgs false
set_option maxHeartbeats 8000000
set_option maxRecDepth 100000
namespace Go.Proofs.YtjkgponlahfnjaaGreat.Ex
open Go.RowKit Go.Proofs.YtjkgponlahfnjaaGreatW.PrintWords Go.Proofs.YtjkgponlahfnjaaGreatW.PrintLast Go.Proofs.YtjkgponlahfnjaaGreatW.PrintMore
open Go.Proofs.YtjkgponlahfnjaaGreat.QFnExactRunPage Go.Proofs.YtjkgponlahfnjaaGreat.Pure Go.Proofs.YtjkgponlahfnjaaGreat.Plain
structure Rw (w : World) (B : Nat) (c : Nat → Nat) (s p v o : Value) (st : List Int) (pa : List S111) (sv : List S42) (ob : List S103) : Prop where
  hs : Kd.R (Kd.int .i64) 3 w B (fun k => c k = 0) s st
  hp : Kd.R k111 111 w B (fun k => c k = 1) p pa
  hv : Kd.S k42 42 w B (fun k => c k = 2) v sv
  ho : Kd.S k103 103 w B (fun k => c k = 3) o ob
section
variable {w w1 : World} {B : Nat} {c : Nat → Nat} {s p v o s' p' v' o' : Value} {st st' : List Int} {pa pa' : List S111} {sv sv' : List S42} {ob ob' : List S103}
def Alien (c : Nat → Nat) (w : World) (l : List Nat) : Prop := ∀ g ∈ l, (∃ cs t, w.heap[g]? = some (.cells cs t (0, 0)) ∧ t ∉ [3, 111, 42, 103]) ∨ 6 ≤ c g
theorem Alien.nil : Alien c w [] := fun g hg => by cases hg
theorem Alien.cons {l : List Nat} {a t : Nat} {cs : Array Value} (h : Aside0 (w.heap[a]? = some (.cells cs t (0, 0)))) (hl : Alien c w l) (ht : t ∉ [3, 111, 42, 103] := by decide) : Alien c w (a :: l) := fun g hg => by
  rcases List.mem_cons.1 hg with e | e
  · rw [e]; exact .inl ⟨_, _, h.out, ht⟩
  · exact hl g e
theorem Alien.one {a t : Nat} {cs : Array Value} (h : Aside0 (w.heap[a]? = some (.cells cs t (0, 0)))) (ht : t ∉ [3, 111, 42, 103] := by decide) : Alien c w [a] := .cons h .nil ht
theorem Alien.dyed {l : List Nat} {a : Nat} (h : 6 ≤ c a) (hl : Alien c w l) : Alien c w (a :: l) := fun g hg => by
  rcases List.mem_cons.1 hg with e | e
  · rw [e]; exact .inr h
  · exact hl g e
theorem R_al {α : Type} {d : Kd α} {e : Nat} {ok : Nat → Prop} {xs : List α} {l : List Nat} (h : Kd.R d e w B ok v xs) (ha : Alien c w l) (ht : ∀ q, q ∈ e :: d.E → q ∈ [3, 111, 42, 103]) (hc : ∀ k, ok k → c k < 6) (hW : OnL l w w1) : Kd.R d e w1 B ok v xs := by
  refine Kd.R_mono (Kd.R_step (Kd.R_bound h) (fun k hk hl => hW.2 k hl (fun hm => ?_))) (fun _ hk => hk.1)
  obtain ⟨h0, _, _, q, hq, cells, hx⟩ := hk
  rcases ha k hm with ⟨cs, t, h1, h2⟩ | h1
  · rw [h1] at hx
    injection hx with hx
    injection hx with _ hx
    exact h2 (hx ▸ ht q hq)
  · have := hc k h0; omega
theorem S_al {α : Type} {d : Kd α} {e : Nat} {ok : Nat → Prop} {xs : List α} {l : List Nat} (h : Kd.S d e w B ok v xs) (ha : Alien c w l) (ht : ∀ q, q ∈ e :: d.E → q ∈ [3, 111, 42, 103]) (hc : ∀ k, ok k → c k < 6) (hW : OnL l w w1) : Kd.S d e w1 B ok v xs := by
  refine Kd.S_mono (Kd.S_step (Kd.S_bound h) (fun k hk hl => hW.2 k hl (fun hm => ?_))) (fun _ hk => hk.1)
  obtain ⟨h0, _, _, q, hq, cells, hx⟩ := hk
  rcases ha k hm with ⟨cs, t, h1, h2⟩ | h1
  · rw [h1] at hx
    injection hx with hx
    injection hx with _ hx
    exact h2 (hx ▸ ht q hq)
  · have := hc k h0; omega
theorem lt4 {k j : Nat} (hj : j < 6) (h : c k = j) : c k < 6 := h.symm ▸ hj
theorem Rw.on {l : List Nat} (h : Rw w B c s p v o st pa sv ob) (ha : Alien c w l) (hW : OnL l w w1) : Rw w1 B c s p v o st pa sv ob :=
  ⟨R_al h.hs ha (by decide) (fun _ => lt4 (by decide)) hW, R_al h.hp ha (by decide) (fun _ => lt4 (by decide)) hW, S_al h.hv ha (by decide) (fun _ => lt4 (by decide)) hW, S_al h.ho ha (by decide) (fun _ => lt4 (by decide)) hW⟩
theorem Rw.below (h : Rw w B c s p v o st pa sv ob) (hb : Below w.heap.size w w1) : Rw w1 B c s p v o st pa sv ob :=
  ⟨Kd.R_below h.hs hb, Kd.R_below h.hp hb, Kd.S_below h.hv hb, Kd.S_below h.ho hb⟩
theorem Rw.lower {B' : Nat} (h : Rw w B' c s p v o st pa sv ob) (hB : B ≤ B') : Rw w B c s p v o st pa sv ob := ⟨Kd.R_lower h.hs hB, Kd.R_lower h.hp hB, Kd.S_lower h.hv hB, Kd.S_lower h.ho hB⟩
def tint (c : Nat → Nat) (n i : Nat) : Nat → Nat := fun k => if n ≤ k then i else c k
theorem tint_new {n i k : Nat} (h : n ≤ k) : tint c n i k = i := if_pos h
theorem tint_old {n i k : Nat} (h : k < n) : tint c n i k = c k := if_neg (by omega)
theorem R_dye {α : Type} {d : Kd α} {e i j : Nat} {xs : List α} (h : Kd.R d e w B (fun k => c k = j) v xs) : Kd.R d e w B (fun k => tint c w.heap.size i k = j) v xs := Kd.R_mono (Kd.R_bound h) (fun k hk => (tint_old hk.2.2.1).trans hk.1)
theorem S_dye {α : Type} {d : Kd α} {e i j : Nat} {xs : List α} (h : Kd.S d e w B (fun k => c k = j) v xs) : Kd.S d e w B (fun k => tint c w.heap.size i k = j) v xs := Kd.S_mono (Kd.S_bound h) (fun k hk => (tint_old hk.2.2.1).trans hk.1)
theorem Rw.dye (h : Rw w B c s p v o st pa sv ob) (i : Nat) : Rw w B (tint c w.heap.size i) s p v o st pa sv ob := ⟨R_dye h.hs, R_dye h.hp, S_dye h.hv, S_dye h.ho⟩
theorem Rw.newS {ok : Nat → Prop} (h : Rw w B c s p v o st pa sv ob) (hb : Below w.heap.size w w1) (hB : B ≤ w.heap.size) (hn : Kd.R (Kd.int .i64) 3 w1 w.heap.size ok s' st') : ∃ c', Rw w1 B c' s' p v o st' pa sv ob := by
  have hd := (h.dye 0).below hb
  exact ⟨_, Kd.R_lower (Kd.R_mono (Kd.R_bound hn) (fun k hk => tint_new hk.2.1)) hB, hd.hp, hd.hv, hd.ho⟩
theorem Rw.newP {ok : Nat → Prop} (h : Rw w B c s p v o st pa sv ob) (hb : Below w.heap.size w w1) (hB : B ≤ w.heap.size) (hn : Kd.R k111 111 w1 w.heap.size ok p' pa') : ∃ c', Rw w1 B c' s p' v o st pa' sv ob := by
  have hd := (h.dye 1).below hb
  exact ⟨_, hd.hs, Kd.R_lower (Kd.R_mono (Kd.R_bound hn) (fun k hk => tint_new hk.2.1)) hB, hd.hv, hd.ho⟩
theorem Rw.nilP (h : Rw w B c s p v o st pa sv ob) : Rw w B c s (.slice none 0 0) v o st [] sv ob := ⟨h.hs, Kd.R_nil _ _ _ _ _, h.hv, h.ho⟩
theorem Rw.mvP (h : Rw w B c s p v o st pa sv ob) : ∃ c', Rw w B c' s (.slice none 0 0) v o st [] sv ob ∧ Kd.R k111 111 w B (fun k => c' k = 4) p pa := by
  have e : ∀ {j k : Nat}, j ≠ 1 → c k = j → (if c k = 1 then 4 else c k) = j := fun hj hk => by rw [if_neg (by omega)]; exact hk
  exact ⟨fun k => if c k = 1 then 4 else c k, ⟨Kd.R_mono h.hs (fun k => e (by decide)), Kd.R_nil _ _ _ _ _, Kd.S_mono h.hv (fun k => e (by decide)), Kd.S_mono h.ho (fun k => e (by decide))⟩, Kd.R_mono h.hp (fun k hk => if_pos hk)⟩
def Typ (w w1 : World) (e : Nat) : Prop := ∀ (g : Nat) (cs : Array Value) (t : Nat), w.heap[g]? = some (.cells cs t (0, 0)) → t ≠ e → w1.heap[g]? = some (.cells cs t (0, 0))
theorem typ_of {e : Nat} {x : Value} (hg : w.grownBy w1 x.ownBlock) (hty : ∀ k, x.ownBlock = some k → ∃ cells, w.heap[k]? = some (.cells cells e (0, 0))) : Typ w w1 e := fun g cs t h ht => blk_grown h hg (fun hh => by
  obtain ⟨_, h2⟩ := hty g hh.symm
  rw [h] at h2
  injection h2 with h2
  injection h2 with _ h2
  exact ht h2)
theorem R_row {α : Type} {d : Kd α} {e i j : Nat} {xs : List α} {x : Value} (h : Kd.R d e w B (fun k => c k = j) v xs) (hx : ∀ k, x.ownBlock = some k → c k = i) (hij : j ≠ i) (hg : w.grownBy w1 x.ownBlock) : Kd.R d e w1 B (fun k => c k = j) v xs :=
  Kd.R_grown h hg (fun k hk e => hij (hk.symm.trans (hx k e.symm)))
theorem S_row {α : Type} {d : Kd α} {e i j : Nat} {xs : List α} {x : Value} (h : Kd.S d e w B (fun k => c k = j) v xs) (hx : ∀ k, x.ownBlock = some k → c k = i) (hij : j ≠ i) (hg : w.grownBy w1 x.ownBlock) : Kd.S d e w1 B (fun k => c k = j) v xs :=
  Kd.S_step h (fun k hk hl => hg.block k hl (fun e => hij (hk.symm.trans (hx k e.symm))))
theorem Rw.fresh {w2 : World} (hs : Kd.R (Kd.int .i64) 3 w1 w.heap.size (fun _ => True) s st) (hp : Kd.R k111 111 w1 w.heap.size (fun _ => True) p pa) (hb : Below w.heap.size w w1) (ho : Kd.S k103 103 w2 w1.heap.size (fun _ => True) o ob) (hb2 : Below w1.heap.size w1 w2) : ∃ c, Rw w2 w.heap.size c s p (.slice none 0 0) o st pa [] ob := by
  have ne : ∀ k, p.ownBlock = some k → s.ownBlock ≠ some k := fun k h1 h2 => by
    obtain ⟨_, e1⟩ := Kd.R_typed hp k h1
    obtain ⟨_, e2⟩ := Kd.R_typed hs k h2
    rw [e1] at e2
    injection e2 with e2
    injection e2 with _ e2
    exact absurd e2 (by decide)
  refine ⟨fun k => if some k = s.ownBlock then 0 else if some k = p.ownBlock then 1 else 3, ⟨Kd.R_below ?_ hb2, Kd.R_below ?_ hb2, Kd.S_nil _ _ _ _ _, Kd.S_lower (Kd.S_mono (Kd.S_bound ho) (fun k hk => ?_)) hb.size⟩⟩
  · exact ⟨fun k hk => if_pos hk.symm, hs.2.imp_ (fun _ _ h => h)⟩
  · exact Kd.R_mono (Kd.R_tight rfl hp) (fun k hk => by rw [if_neg (fun e => ne k hk.symm e.symm), if_pos hk])
  · rw [if_neg (fun e => by have := Kd.R_lt hs k e.symm; have := hk.2.1; omega), if_neg (fun e => by have := Kd.R_lt hp k e.symm; have := hk.2.1; omega)]
theorem Rw.popV {ad : Addr} {n cap : Nat} (h : Rw w B c s p (.slice (some ad) n cap) o st pa sv ob) (hn : 0 < n) : ∃ c' A5 C5 v0, Rw w B c' s (.slice A5 (rd_T42 sv ((n : Int) - 1)).f2.length C5) (.slice (some ad) (n - 1) cap) o st (rd_T42 sv ((n : Int) - 1)).f2 (sv.take (n - 1)) ob ∧
    (∀ j u, [v0, .int .i64 (rd_T42 sv ((n : Int) - 1)).f1.f0, .int .i64 (rd_T42 sv ((n : Int) - 1)).f1.f1, .int .i64 (rd_T42 sv ((n : Int) - 1)).f1.f2, .int .i64 (rd_T42 sv ((n : Int) - 1)).f1.f3, .slice A5 (rd_T42 sv ((n : Int) - 1)).f2.length C5, .int .i64 (rd_T42 sv ((n : Int) - 1)).f3, .int .i64 (rd_T42 sv ((n : Int) - 1)).f4.f0, .int .i64 (rd_T42 sv ((n : Int) - 1)).f4.f1, .int .i64 (rd_T42 sv ((n : Int) - 1)).f4.f2, .int .i64 (rd_T42 sv ((n : Int) - 1)).f4.f3][j]? = some u → w.cell? (ad.add ((n - 1) * 11 + j)) = some u) ∧ ∃ A0 C0, v0 = .slice A0 (rd_T42 sv ((n : Int) - 1)).f0.length C0 := by
  classical
  obtain ⟨cl, hcl, oj, hoj, hM, hcc, hsp⟩ := S_split h.hv z42 ((n : Int) - 1) (by omega) (by omega)
  obtain ⟨v0, v5, rfl, g0, g5⟩ := k42_openM hM
  have e : ((n : Int) - 1).toNat = n - 1 := by omega
  rw [e] at hsp hcc
  simp only [show sv.getD (n - 1) z42 = rd_T42 sv ((n : Int) - 1) from by unfold rd_T42; rw [e]] at hcc
  change Kd.R _ 3 w B oj v0 (rd_T42 sv ((n : Int) - 1)).f0 at g0
  change Kd.R _ 111 w B oj v5 (rd_T42 sv ((n : Int) - 1)).f2 at g5
  obtain ⟨A5, C5, rfl⟩ := Kd.R_slice g5
  obtain ⟨A0, C0, rfl⟩ := Kd.R_slice g0
  have cc : ∀ k, oj k → c k = 2 := fun k hk => (hoj k hk).1
  refine ⟨fun k => if oj k then 1 else if c k = 1 then 9 else c k, A5, C5, _, ⟨Kd.R_mono h.hs (fun k hk => ?_), Kd.R_mono g5 (fun k hk => if_pos hk), Kd.S_mono hsp (fun k hk => ?_), Kd.S_mono h.ho (fun k hk => ?_)⟩, hcc, A0, C0, rfl⟩
  · have : ¬ oj k := fun hj => by have := cc k hj; omega
    simp only [if_neg this]; rw [if_neg (by omega)]; exact hk
  · simp only [if_neg hk.2]; rw [if_neg (by omega)]; exact hk.1
  · have : ¬ oj k := fun hj => by have := cc k hj; omega
    simp only [if_neg this]; rw [if_neg (by omega)]; exact hk
section
variable {P : Program} {ops : Array Oper} {op : Oper} {a : Act} {W w0 : World} {Q : Exit → Act → World → Prop} {Kc : Act → World → Prop}
theorem Rw.appP (h : Rw W B c s p v o st pa sv ob) (sT xT : Operand) (x y : Int) (HB : Below B w0 W) (hB : B ≤ W.heap.size) (hw : Region.wanted op (yielded ops a.tmps) = true)
    (hop : op.op = .call { callee := .builtin .append, args := #[sT, xT], argTypes := #[39, 39] }) (ht : P.underlying 39 = some (.slice 111)) (hi : (P.info? 111).map (fun i => (i.zero, i.size, i.bytes)) = some (some (.agg #[(.int .i64 0), (.int .i64 0)]), 2, 16))
    (hs : a.eval sT = p) (hx : a.eval xT = .slice (some ⟨W.heap.size, 0, none⟩) 1 1) (hl : pa.length ≤ 1048576)
    (k : ∀ A n C w1, (∃ c', Rw w1 B c' s (.slice A n C) v o st (pa ++ [⟨x, y⟩]) sv ob ∧ ∀ lv xs, Kd.R k111 111 W B (fun k => c k = 5) lv xs → Kd.R k111 111 w1 B (fun k => c' k = 5) lv xs) → Below B w0 w1 → Typ W w1 111 → Kc (a.put op.dst (.slice A n C)) w1) :
    if Region.wanted op (yielded ops a.tmps) = true then Oper.wp P op a (W.alloc (.cells #[.int .i64 x, .int .i64 y] 111)) Kc Q else Kc (a.put op.dst undef) (W.alloc (.cells #[.int .i64 x, .int .i64 y] 111)) := by
  have hd := h.dye 1
  refine Kd.R_append_step k111 (w0 := w0) B hw sT xT 39 111 _ 16 hop ht hi rfl (by decide) (by omega) p pa (⟨x, y⟩ : S111) [.int .i64 x, .int .i64 y] _ (fun _ => False) hs hx (k111_mkM _ _ _ (⟨x, y⟩ : S111)) (fun _ hk => hk.elim) (fun k hk => tint_new hk) hd.hp HB hB (by omega) ?_
  intro x_ w1 hr hb hg _
  obtain ⟨A, C, rfl⟩ := Kd.R_slice hr
  exact k _ _ _ w1 ⟨_, ⟨R_row hd.hs hd.hp.1 (by decide) hg, hr, S_row hd.hv hd.hp.1 (by decide) hg, S_row hd.ho hd.hp.1 (by decide) hg⟩, fun _ _ h5 => R_row (R_dye h5) hd.hp.1 (by decide) hg⟩ hb (typ_of hg (Kd.R_typed h.hp))
theorem Rw.appO {r : Value} {I : List S111} {f : Int} {bx : S40} (h : Rw W B c s p v o st pa sv ob) (hr : Kd.R k111 111 W B (fun k => c k = 4) r I) (sT xT : Operand) (HB : Below B w0 W) (hB : B ≤ W.heap.size) (hw : Region.wanted op (yielded ops a.tmps) = true)
    (hop : op.op = .call { callee := .builtin .append, args := #[sT, xT], argTypes := #[44, 44] }) (ht : P.underlying 44 = some (.slice 103)) (hi : (P.info? 103).map (fun i => (i.zero, i.size, i.bytes)) = some (some (.agg #[(.slice none 0 0), (.int .i64 0), (.int .i64 0), (.int .i64 0), (.int .i64 0), (.int .i64 0)]), 6, 64))
    (hs : a.eval sT = o) (hx : a.eval xT = .slice (some ⟨W.heap.size, 0, none⟩) 1 1) (hl : ob.length ≤ 1048576)
    (k : ∀ A n C w1, (∃ c', Rw w1 B c' s p v (.slice A n C) st pa sv (ob ++ [⟨I, f, bx⟩])) → Below B w0 w1 → Typ W w1 103 → Kc (a.put op.dst (.slice A n C)) w1) :
    if Region.wanted op (yielded ops a.tmps) = true then Oper.wp P op a (W.alloc (.cells #[r, .int .i64 f, .int .i64 bx.f0, .int .i64 bx.f1, .int .i64 bx.f2, .int .i64 bx.f3] 103)) Kc Q else Kc (a.put op.dst undef) (W.alloc (.cells #[r, .int .i64 f, .int .i64 bx.f0, .int .i64 bx.f1, .int .i64 bx.f2, .int .i64 bx.f3] 103)) := by
  have hd := h.dye 3
  have hr := R_dye (i := 3) hr
  generalize tint c W.heap.size 3 = c1 at hd hr
  refine Kd.S_append_step k103 (w0 := w0) B hw sT xT 44 103 _ 64 hop ht hi rfl (by decide) (by omega) o ob (⟨I, f, bx⟩ : S103) _ (fun k => (c1 k = 3 ∨ c1 k = 4) ∨ W.heap.size ≤ k) (fun k => c1 k = 4) hs hx (k103_mkM _ _ _ (⟨I, f, bx⟩ : S103) hr) (fun k hk => ⟨.inl (.inr hk), fun e => by have := (Kd.S_R hd.ho).1 k e.symm; omega⟩) (fun k hk => .inr hk) (Kd.S_mono hd.ho (fun k hk => ⟨.inl (.inl hk), by omega⟩)) HB hB (by omega) ?_
  intro x_ w1 hr' hb hg _
  have hx3 := (Kd.S_R hd.ho).1
  have fx : ∀ {j : Nat}, j ≠ 3 → j ≠ 4 → ∀ k, c1 k = j ∧ k < W.heap.size → (if (c1 k = 3 ∨ c1 k = 4) ∨ W.heap.size ≤ k then 3 else c1 k) = j := fun h3 h4 k hk => by rw [if_neg (by omega)]; exact hk.1
  obtain ⟨A, C, rfl⟩ := Kd.S_slice hr'
  refine k _ _ _ w1 ⟨fun k => if (c1 k = 3 ∨ c1 k = 4) ∨ W.heap.size ≤ k then 3 else c1 k, ?_, ?_, ?_, Kd.S_mono hr' (fun k hk => if_pos hk)⟩ hb (typ_of hg (Kd.S_typed h.ho))
  · exact Kd.R_grown (Kd.R_mono (Kd.R_bound hd.hs) (fun k hk => ⟨hk.1, hk.2.2.1⟩)) hg (fun k hk e => by have := hx3 k e.symm; omega) |> fun z => Kd.R_mono z (fx (by decide) (by decide))
  · exact Kd.R_grown (Kd.R_mono (Kd.R_bound hd.hp) (fun k hk => ⟨hk.1, hk.2.2.1⟩)) hg (fun k hk e => by have := hx3 k e.symm; omega) |> fun z => Kd.R_mono z (fx (by decide) (by decide))
  · exact Kd.S_step (Kd.S_mono (Kd.S_bound hd.hv) (fun k hk => (⟨hk.1, hk.2.2.1⟩ : c1 k = 2 ∧ k < W.heap.size))) (fun k hk hl => hg.block k hl (fun e => by have := hx3 k e.symm; omega)) |> fun z => Kd.S_mono z (fx (by decide) (by decide))
theorem Rw.appV {r0 r5 : Value} {x : S42} (h : Rw W B c s p v o st pa sv ob) (hr0 : Kd.R (Kd.int .i64) 3 W B (fun k => c k = 4) r0 x.f0) (hr5 : Kd.R k111 111 W B (fun k => c k = 4) r5 x.f2) (sT xT : Operand) (HB : Below B w0 W) (hB : B ≤ W.heap.size) (hw : Region.wanted op (yielded ops a.tmps) = true)
    (hop : op.op = .call { callee := .builtin .append, args := #[sT, xT], argTypes := #[43, 43] }) (ht : P.underlying 43 = some (.slice 42)) (hi : (P.info? 42).map (fun i => (i.zero, i.size, i.bytes)) = some (some (.agg #[(.slice none 0 0), (.int .i64 0), (.int .i64 0), (.int .i64 0), (.int .i64 0), (.slice none 0 0), (.int .i64 0), (.int .i64 0), (.int .i64 0), (.int .i64 0), (.int .i64 0)]), 11, 120))
    (hs : a.eval sT = v) (hx : a.eval xT = .slice (some ⟨W.heap.size, 0, none⟩) 1 1) (hl : sv.length ≤ 1048576)
    (k : ∀ A n C w1, (∃ c', Rw w1 B c' s p (.slice A n C) o st pa (sv ++ [x]) ob) → Below B w0 w1 → Typ W w1 42 → Kc (a.put op.dst (.slice A n C)) w1) :
    if Region.wanted op (yielded ops a.tmps) = true then Oper.wp P op a (W.alloc (.cells #[r0, .int .i64 x.f1.f0, .int .i64 x.f1.f1, .int .i64 x.f1.f2, .int .i64 x.f1.f3, r5, .int .i64 x.f3, .int .i64 x.f4.f0, .int .i64 x.f4.f1, .int .i64 x.f4.f2, .int .i64 x.f4.f3] 42)) Kc Q else Kc (a.put op.dst undef) (W.alloc (.cells #[r0, .int .i64 x.f1.f0, .int .i64 x.f1.f1, .int .i64 x.f1.f2, .int .i64 x.f1.f3, r5, .int .i64 x.f3, .int .i64 x.f4.f0, .int .i64 x.f4.f1, .int .i64 x.f4.f2, .int .i64 x.f4.f3] 42)) := by
  have hd := h.dye 2
  have hr0 := R_dye (i := 2) hr0
  have hr5 := R_dye (i := 2) hr5
  generalize tint c W.heap.size 2 = c1 at hd hr0 hr5
  refine Kd.S_append_step k42 (w0 := w0) B hw sT xT 43 42 _ 120 hop ht hi rfl (by decide) (by omega) v sv x _ (fun k => (c1 k = 2 ∨ c1 k = 4) ∨ W.heap.size ≤ k) (fun k => c1 k = 4) hs hx (k42_mkM _ _ _ x hr0 hr5) (fun k hk => ⟨.inl (.inr hk), fun e => by have := (Kd.S_R hd.hv).1 k e.symm; omega⟩) (fun k hk => .inr hk) (Kd.S_mono hd.hv (fun k hk => ⟨.inl (.inl hk), by omega⟩)) HB hB (by omega) ?_
  intro x_ w1 hr' hb hg _
  have hx3 := (Kd.S_R hd.hv).1
  have fx : ∀ {j : Nat}, j ≠ 2 → j ≠ 4 → ∀ k, c1 k = j ∧ k < W.heap.size → (if (c1 k = 2 ∨ c1 k = 4) ∨ W.heap.size ≤ k then 2 else c1 k) = j := fun h3 h4 k hk => by rw [if_neg (by omega)]; exact hk.1
  obtain ⟨A, C, rfl⟩ := Kd.S_slice hr'
  refine k _ _ _ w1 ⟨fun k => if (c1 k = 2 ∨ c1 k = 4) ∨ W.heap.size ≤ k then 2 else c1 k, ?_, ?_, Kd.S_mono hr' (fun k hk => if_pos hk), ?_⟩ hb (typ_of hg (Kd.S_typed h.hv))
  · exact Kd.R_grown (Kd.R_mono (Kd.R_bound hd.hs) (fun k hk => ⟨hk.1, hk.2.2.1⟩)) hg (fun k hk e => by have := hx3 k e.symm; omega) |> fun z => Kd.R_mono z (fx (by decide) (by decide))
  · exact Kd.R_grown (Kd.R_mono (Kd.R_bound hd.hp) (fun k hk => ⟨hk.1, hk.2.2.1⟩)) hg (fun k hk e => by have := hx3 k e.symm; omega) |> fun z => Kd.R_mono z (fx (by decide) (by decide))
  · exact Kd.S_step (Kd.S_mono (Kd.S_bound hd.ho) (fun k hk => (⟨hk.1, hk.2.2.1⟩ : c1 k = 3 ∧ k < W.heap.size))) (fun k hk hl => hg.block k hl (fun e => by have := hx3 k e.symm; omega)) |> fun z => Kd.S_mono z (fx (by decide) (by decide))
end
end
end Go.Proofs.YtjkgponlahfnjaaGreat.Ex
namespace Go.Proofs.YtjkgponlahfnjaaGreat.Ex
open Go.RowKit Go.Proofs.YtjkgponlahfnjaaGreatW.PrintWords Go.Proofs.YtjkgponlahfnjaaGreatW.PrintLast Go.Proofs.YtjkgponlahfnjaaGreatW.PrintMore
open Go.Proofs.YtjkgponlahfnjaaGreat.QFnExactRunPage Go.Proofs.YtjkgponlahfnjaaGreat.Pure Go.Proofs.YtjkgponlahfnjaaGreat.Plain
theorem both_t {a b : Bool} (h : false = !(a && b)) : a = true ∧ b = true := by cases a <;> cases b <;> simp at h ⊢
def Sc (a : Nat) (cs : Array Value) (t : Nat) (L : List (Addr × Value)) (w : World) : Prop := w.heap[a]? = some (.cells cs t (0, 0)) ∧ ∀ x ∈ L, w.cell? x.1 = some x.2
theorem Sc.below {a t : Nat} {cs : Array Value} {L : List (Addr × Value)} {w w1 : World} (h : Sc a cs t L w) (hb : Below w.heap.size w w1) : Sc a cs t L w1 := ⟨blk_below h.1 hb, fun x hx => (hb.cell (World.block_lt_of_cell? _ _ (h.2 x hx))).trans (h.2 x hx)⟩
theorem Sc.alloc {a t : Nat} {cs : Array Value} {L : List (Addr × Value)} {w : World} (h : Sc a cs t L w) (o : Obj) : Sc a cs t L (w.alloc o) := h.below (below_alloc (Below.refl _ _) _)
theorem Sc.new {a t : Nat} {cs cs0 : Array Value} {L : List (Addr × Value)} {w w0 : World} {g j : Nat} {x : Value} (h : Sc a cs t L w) (h0 : ∃ t0, w0.heap[a]? = some (.cells cs0 t0 (0, 0))) (hL : ∀ x ∈ L, x.1.block < w0.heap.size) (hg : w0.heap.size ≤ g) : Sc a cs t L (w.setCell ⟨g, j, none⟩ x) := by
  obtain ⟨t0, h0⟩ := h0
  refine ⟨(Below.heap_setCell w ⟨g, j, none⟩ x a (fun e => ?_)).trans h.1, fun y hy => (cell_far (p := ⟨g, j, none⟩) (fun e => ?_) x).trans (h.2 y hy)⟩
  · have e2 : a = g := e
    have := blk_lt h0
    omega
  · have e2 : y.1.block = g := e
    have := hL y hy
    omega
structure Fr (l : List Nat) (B : Nat) (w0 w : World) : Prop where
  on : OnL l w0 w
  bl : Below B w0 w
theorem onL {l : List Nat} {w w1 : World} (h : OnL l w w1 := by repeat (first | (with_reducible exact OnL_refl _ _) | (with_reducible refine OnL_set ?_ _ _ (by simp)) | (with_reducible refine OnL_alloc ?_ _) | (with_reducible refine OnL_drewN ?_ _) | (with_reducible refine OnL_drew ?_))) : OnL l w w1 := h
theorem Fr.refl (l : List Nat) (B : Nat) (w : World) : Fr l B w w := ⟨OnL_refl _ _, Below.refl _ _⟩
section
variable {l : List Nat} {B : Nat} {w0 w w1 : World}
theorem Fr.below (h : Fr l B w0 w) (hB : B ≤ w0.heap.size) (hb : Below w.heap.size w w1) : Fr l B w0 w1 := ⟨OnL_below h.on hb, below_then h.bl (Nat.le_trans hB h.on.1) hb⟩
theorem Fr.drew (h : Fr l B w0 w) : Fr l B w0 w.drew := ⟨OnL_drew h.on, below_drew1 h.bl⟩
theorem Fr.drewN (h : Fr l B w0 w) (m : Nat) : Fr l B w0 (w.drewN m) := ⟨OnL_drewN h.on m, pw_below_drewN h.bl m⟩
theorem Fr.set {g : Nat} (h : Fr l B w0 w) (j : Nat) (x : Value) (hg : g ∈ l) (hB : B ≤ g) : Fr l B w0 (w.setCell ⟨g, j, none⟩ x) := ⟨OnL_set h.on _ _ hg, h.bl.setCell hB _⟩
theorem Fr.of (hB : B ≤ w0.heap.size) (hb : Below w0.heap.size w0 w) : Fr l B w0 w := ⟨⟨hb.size, fun k hk _ => hb.block k hk⟩, hb.mono hB⟩
theorem Fr.new {g : Nat} (h : Fr l B w0 w) (j : Nat) (x : Value) (hB : B ≤ w0.heap.size) (hg : w0.heap.size ≤ g) : Fr l B w0 (w.setCell ⟨g, j, none⟩ x) := ⟨⟨by simpa [World.setCell] using h.on.1, fun k hk hl => (Below.heap_setCell w ⟨g, j, none⟩ x k (fun e => by have e2 : k = g := e; omega)).trans (h.on.2 k hk hl)⟩, h.bl.setCell (Nat.le_trans hB hg) _⟩
theorem Fr.trans {w2 : World} (h : Fr l B w0 w) (k : Fr l B w w2) : Fr l B w0 w2 := ⟨⟨Nat.le_trans h.on.1 k.on.1, fun i hi hl => (k.on.2 i (Nat.lt_of_lt_of_le hi h.on.1) hl).trans (h.on.2 i hi hl)⟩, h.bl.trans k.bl⟩
end
def ldl (ad : Addr) : List Int → List (Addr × Value)
  | [x] => [(ad, .int .i64 x)]
  | [x, y] => [(ad, .int .i64 x), (⟨ad.block, ad.off + 1, none⟩, .int .i64 y)]
  | [x, y, u, z] => [(ad, .int .i64 x), (⟨ad.block, ad.off + 1, none⟩, .int .i64 y), (⟨ad.block, ad.off + 2, none⟩, .int .i64 u), (⟨ad.block, ad.off + 3, none⟩, .int .i64 z)]
  | _ => []
def LdL (w : World) (ad : Addr) (l : List Int) : Prop := ∀ x ∈ ldl ad l, w.cell? x.1 = some x.2
def l11 (b : Addr) (x : S42) (v0 v5 : Value) : List (Addr × Value) := [(b, v0), (⟨b.block, b.off + 1, none⟩, .int .i64 x.f1.f0), (⟨b.block, b.off + 2, none⟩, .int .i64 x.f1.f1), (⟨b.block, b.off + 3, none⟩, .int .i64 x.f1.f2), (⟨b.block, b.off + 4, none⟩, .int .i64 x.f1.f3), (⟨b.block, b.off + 5, none⟩, v5), (⟨b.block, b.off + 6, none⟩, .int .i64 x.f3), (⟨b.block, b.off + 7, none⟩, .int .i64 x.f4.f0), (⟨b.block, b.off + 8, none⟩, .int .i64 x.f4.f1), (⟨b.block, b.off + 9, none⟩, .int .i64 x.f4.f2), (⟨b.block, b.off + 10, none⟩, .int .i64 x.f4.f3)]
theorem l11_of {w : World} {ad : Addr} {k : Nat} {x : S42} {v0 v5 : Value} (h : ∀ j u, [v0, .int .i64 x.f1.f0, .int .i64 x.f1.f1, .int .i64 x.f1.f2, .int .i64 x.f1.f3, v5, .int .i64 x.f3, .int .i64 x.f4.f0, .int .i64 x.f4.f1, .int .i64 x.f4.f2, .int .i64 x.f4.f3][j]? = some u → w.cell? (ad.add (k * 11 + j)) = some u) : ∀ y ∈ l11 (ad.add (k * 11)) x v0 v5, w.cell? y.1 = some y.2 := by
  have e : ∀ (j : Nat) (u : Value), 0 < j → w.cell? (ad.add (k * 11 + j)) = some u → w.cell? ⟨(ad.add (k * 11)).block, (ad.add (k * 11)).off + j, none⟩ = some u := fun j u hj hc => by rw [add_field _ _ j hj] at hc; exact hc
  simp only [l11, List.forall_mem_cons, List.not_mem_nil, false_implies, implies_true, and_true]
  exact ⟨h 0 _ rfl, e 1 _ (by decide) (h 1 _ rfl), e 2 _ (by decide) (h 2 _ rfl), e 3 _ (by decide) (h 3 _ rfl), e 4 _ (by decide) (h 4 _ rfl), e 5 _ (by decide) (h 5 _ rfl), e 6 _ (by decide) (h 6 _ rfl), e 7 _ (by decide) (h 7 _ rfl), e 8 _ (by decide) (h 8 _ rfl), e 9 _ (by decide) (h 9 _ rfl), e 10 _ (by decide) (h 10 _ rfl)⟩
theorem l11_blk {w : World} {g t : Nat} {x : S42} {v0 v5 : Value} (h : w.heap[g]? = some (.cells #[v0, .int .i64 x.f1.f0, .int .i64 x.f1.f1, .int .i64 x.f1.f2, .int .i64 x.f1.f3, v5, .int .i64 x.f3, .int .i64 x.f4.f0, .int .i64 x.f4.f1, .int .i64 x.f4.f2, .int .i64 x.f4.f3] t (0, 0))) : ∀ y ∈ l11 ⟨g, 0, none⟩ x v0 v5, w.cell? y.1 = some y.2 := by
  simp only [l11, List.forall_mem_cons, List.not_mem_nil, false_implies, implies_true, and_true]
  exact ⟨blk_cell h 0, blk_cell h 1, blk_cell h 2, blk_cell h 3, blk_cell h 4, blk_cell h 5, blk_cell h 6, blk_cell h 7, blk_cell h 8, blk_cell h 9, blk_cell h 10⟩
def l6 (b : Addr) (x : S103) (v0 : Value) : List (Addr × Value) := [(b, v0), (⟨b.block, b.off + 1, none⟩, .int .i64 x.f1), (⟨b.block, b.off + 2, none⟩, .int .i64 x.f2.f0), (⟨b.block, b.off + 3, none⟩, .int .i64 x.f2.f1), (⟨b.block, b.off + 4, none⟩, .int .i64 x.f2.f2), (⟨b.block, b.off + 5, none⟩, .int .i64 x.f2.f3)]
theorem l6_of {w : World} {ad : Addr} {k : Nat} {x : S103} {v0 : Value} (h : ∀ j u, [v0, .int .i64 x.f1, .int .i64 x.f2.f0, .int .i64 x.f2.f1, .int .i64 x.f2.f2, .int .i64 x.f2.f3][j]? = some u → w.cell? (ad.add (k * 6 + j)) = some u) : ∀ y ∈ l6 (ad.add (k * 6)) x v0, w.cell? y.1 = some y.2 := by
  have e : ∀ (j : Nat) (u : Value), 0 < j → w.cell? (ad.add (k * 6 + j)) = some u → w.cell? ⟨(ad.add (k * 6)).block, (ad.add (k * 6)).off + j, none⟩ = some u := fun j u hj hc => by rw [add_field _ _ j hj] at hc; exact hc
  simp only [l6, List.forall_mem_cons, List.not_mem_nil, false_implies, implies_true, and_true]
  exact ⟨h 0 _ rfl, e 1 _ (by decide) (h 1 _ rfl), e 2 _ (by decide) (h 2 _ rfl), e 3 _ (by decide) (h 3 _ rfl), e 4 _ (by decide) (h 4 _ rfl), e 5 _ (by decide) (h 5 _ rfl)⟩
theorem LdL.below {w w1 : World} {ad : Addr} {l : List Int} (h : LdL w ad l) (hb : Below w.heap.size w w1) : LdL w1 ad l := fun x hx => (hb.cell (World.block_lt_of_cell? _ _ (h x hx))).trans (h x hx)
theorem kR {w w1 : World} {g t : Nat} {cs cs' : Array Value} (h : Aside0 (w.heap[g]? = some (.cells cs t (0, 0)))) (p : w.heap[g]? = some (.cells cs t (0, 0)) → w1.heap[g]? = some (.cells cs' t (0, 0)) := by intro h_; apply kfin; (repeat (first | (with_reducible exact h_) | (with_reducible apply kset) | (with_reducible refine blk_drewN ?_ _) | (with_reducible refine blk_drew ?_) | (with_reducible refine blk_alloc ?_ _))); first | (with_reducible rfl) | (simp only [List.setIfInBounds_toArray, List.set_cons_zero, List.set_cons_succ]; done) | (simp only [List.setIfInBounds_toArray, List.set_cons_zero, List.set_cons_succ]; rfl) | rfl) : w1.heap[g]? = some (.cells cs' t (0, 0)) := p h.out
section
variable {P : Program} {md : Region.Mode} {ops : Array Oper} {Q : Exit → Act → World → Prop} {S : World → Prop} {ds : List Nat}
theorem sta {id a t : Nat} {cs : Array Value} {ac : Act} {w w0 : World} {lk : List Nat} {B : Nat} (n : Nat) (ds : List Nat) (L : List (Addr × Value)) (h : Aside0 (w.heap[a]? = some (.cells cs t (0, 0)))) (hL : ∀ x ∈ L, w.cell? x.1 = some x.2) (F : Aside0 (Fr lk B w0 w))
    (k : ∀ w1, Below w.heap.size w w1 → Aside0 (Fr lk B w0 w1) → Sc a cs t L w1 → wpAnyLast P .any ops Q (Sc a cs t L) ds n (Array.replicate n false) ac w1) (hm : P.follows .mixedOrders = true := by kernel_rfl) (hn : ops.size = n := by rfl) : (Code.region id ops true).wp P Q ac w :=
  start_ _ hm hn rfl ⟨blk_drew h.out, hL⟩ (k _ (below_drew (Below.refl _ _)) ⟨F.out.drew⟩)
theorem pV (i : Nat) {n : Tmp} {oi : Oper} {v : Value} {fuel : Nat} {l : Array Bool} {a a' : Act} {w : World} (h : wpAnyLast P md ops Q S ds fuel (l.setIfInBounds i true) a' w) (hi : ops[i]? = some oi := by rfl) (hN : oi.dst = some n := by rfl) (hc : anyB md ops l (l.setIfInBounds i true) i = true := by first | exact any_of HT_.out (by kernel_rfl) | kernel_rfl)
    (hQ : ∀ c a w, Q (.panic c) (a.put oi.dst v) w → Q (.panic c) a w := by exact fun _ _ _ h => h) (hy : Yields P ops oi v a := by exact Or.inl ⟨by rfl, by intro w'; go_simp; with_reducible rfl⟩) (ha : a.put (some n) v = a' := by simp only [Act.put, List.setIfInBounds_toArray, List.set_cons_zero, List.set_cons_succ, i64_w, i32_w]; rfl) : wpAnyLast P md ops Q S ds (fuel + 1) l a w := pure_ _ hi hN hc hQ hy ha h
theorem tV (i : Nat) {n : Tmp} {oi : Oper} {v : Value} {fuel b t : Nat} {cs : Array Value} {L : List (Addr × Value)} {l : Array Bool} {a a' : Act} {w : World} (h : wpAnyLast P md ops Q (Sc b cs t L) ds fuel (l.setIfInBounds i true) a' w) (hi : ops[i]? = some oi := by rfl) (hN : oi.dst = some n := by rfl) (hc : takeB md ops ds l (l.setIfInBounds i true) i = true := by first | exact take_ofW HT_.out HW_.out (by kernel_rfl) | kernel_rfl)
    (hQ : ∀ c a w, Q (.panic c) (a.put oi.dst v) w → Q (.panic c) a w := by exact fun _ _ _ h => h) (hy : YieldsIf P ops (Sc b cs t L) oi v a := by exact Or.inl ⟨by rfl, by intro w' hs_; have hz_ := cz13 (aM hs_.1); have hs_ := hs_.2; simp only [ldl, l11, l6, List.forall_mem_cons, List.not_mem_nil, false_implies, implies_true, and_true] at hs_; go_simp; with_reducible rfl⟩) (hS : Sc b cs t L w := by exact hHeld) (ha : a.put (some n) v = a' := by simp only [Act.put, List.setIfInBounds_toArray, List.set_cons_zero, List.set_cons_succ, i64_w, i32_w]; rfl) : wpAnyLast P md ops Q (Sc b cs t L) ds (fuel + 1) l a w := take_ _ hi hN hc hQ hy hS ha h
variable {l : Array Bool} {a a' : Act} {w w1 : World} {fuel : Nat} {K : Act → World → Prop}
theorem oV (i : Nat) {n : Tmp} {oi : Oper} (h : ∀ K : Act → World → Prop, Shut (∀ a' w', S w' → (S w' → wpAnyLast P md ops Q S ds fuel (l.setIfInBounds i true) a' w') → K a' w') → if Region.wanted oi (yielded ops a.tmps) = true then Oper.wp P oi a w K Q else K (a.put (some n) undef) w) (hi : ops[i]? = some oi := by rfl) (hN : oi.dst = some n := by rfl) (hc : readyB md ops l (l.setIfInBounds i true) i = true := by first | exact one_of HT_.out (by kernel_rfl) | kernel_rfl) (hd : i ∉ ds := by decide) : wpAnyLast P md ops Q S ds (fuel + 1) l a w := one_ _ hi hN hc hd h
theorem lV (i : Nat) {n : Tmp} {oi : Oper} (h : ∀ K : Act → World → Prop, Shut (∀ a' w', wpAnyLast P md ops Q S ds fuel (l.setIfInBounds i true) a' w' → K a' w') → if Region.wanted oi (yielded ops a.tmps) = true then Oper.wp P oi a w K Q else K (a.put (some n) undef) w) (hi : ops[i]? = some oi := by rfl) (hN : oi.dst = some n := by rfl) (hc : readyB md ops l (l.setIfInBounds i true) i = true := by first | exact one_of HT_.out (by kernel_rfl) | kernel_rfl) (hd : i ∈ ds := by decide) : wpAnyLast P md ops Q S ds (fuel + 1) l a w := last_ _ hi hN hc hd h
theorem sV (i : Nat) {oi : Oper} (k : wpAnyLast P md ops Q S ds fuel (l.setIfInBounds i true) a w1) (hi : ops[i]? = some oi := by rfl) (hN : oi.dst = none := by rfl) (hc : readyB md ops l (l.setIfInBounds i true) i = true := by first | exact one_of HT_.out (by kernel_rfl) | kernel_rfl) (hd : i ∈ ds := by decide) (hw : Region.wanted oi (yielded ops a.tmps) = true := by rfl) (hrun : (execOp a.eval oi).run P w = .ok .skip w1 := by (try have hz_ := cz13 a2); (try have hy_ := cz4 b2); go_simp; rfl) : wpAnyLast P md ops Q S ds (fuel + 1) l a w :=
  last_ _ hi hN hc hd (fun K hK => skip_ hw hN hrun (hK.out _ _ k))
theorem sH (i : Nat) {oi : Oper} (hS : S w1) (k : S w1 → wpAnyLast P md ops Q S ds fuel (l.setIfInBounds i true) a w1) (hi : ops[i]? = some oi := by rfl) (hN : oi.dst = none := by rfl) (hc : readyB md ops l (l.setIfInBounds i true) i = true := by first | exact one_of HT_.out (by kernel_rfl) | kernel_rfl) (hd : i ∉ ds := by decide) (hw : Region.wanted oi (yielded ops a.tmps) = true := by rfl) (hrun : (execOp a.eval oi).run P w = .ok .skip w1 := by (try have hz_ := cz13 a2); (try have hy_ := cz4 b2); go_simp; rfl) : wpAnyLast P md ops Q S ds (fuel + 1) l a w :=
  one_ _ hi hN hc hd (fun K hK => skip_ hw hN hrun (hK.out _ _ hS k))
theorem bV {oi : Oper} {n : Tmp} (cs : Array Value) (t : Nat) (h : ∀ g, g = w.heap.size → ∀ w1, w1.heap[g]? = some (.cells cs t (0, 0)) → Below w.heap.size w w1 → K (a.put (some n) (.pointer (some ⟨g, 0, none⟩))) w1) (hw : Region.wanted oi (yielded ops a.tmps) = true := by rfl) (hN : oi.dst = some n := by rfl) (hrun : (execOp a.eval oi).run P w = .ok (.value (.pointer (some ⟨w.heap.size, 0, none⟩))) (w.alloc (.cells cs t (0, 0))) := by first | (go_simp; done) | (go_simp; rfl)) : if Region.wanted oi (yielded ops a.tmps) = true then Oper.wp P oi a w K Q else K (a.put (some n) undef) w := by
  have := box_step (Kc := K) (Q := Q) hw hN hrun (fun g hg w1 h1 h2 => by rw [hN]; exact h g hg w1 h1 h2)
  rwa [hN] at this
theorem nV {l' : Array Bool} (h : wpAnyLast P md ops Q S ds fuel l' a w) (hl : l = l' := by kernel_rfl) : wpAnyLast P md ops Q S ds fuel l a w := by
  subst hl
  exact h
theorem twV (i j : Nat) {ni nj : Tmp} {oi oj : Oper} (h1 : ∀ K : Act → World → Prop, Shut (∀ a' w', S w' → (S w' → wpAnyLast P md ops Q S ds fuel (l.setIfInBounds i true) a' w') → K a' w') → if Region.wanted oi (yielded ops a.tmps) = true then Oper.wp P oi a w K Q else K (a.put (some ni) undef) w) (h2 : ∀ K : Act → World → Prop, Shut (∀ a' w', S w' → (S w' → wpAnyLast P md ops Q S ds fuel (l.setIfInBounds j true) a' w') → K a' w') → if Region.wanted oj (yielded ops a.tmps) = true then Oper.wp P oj a w K Q else K (a.put (some nj) undef) w)
    (hi : ops[i]? = some oi := by rfl) (hj : ops[j]? = some oj := by rfl) (hNi : oi.dst = some ni := by rfl) (hNj : oj.dst = some nj := by rfl) (hc : (Region.ready md ops l == [i, j] && l.setIfInBounds i true == l.setIfInBounds i true && l.setIfInBounds j true == l.setIfInBounds j true) = true := by kernel_rfl) (hdi : i ∉ ds := by decide) (hdj : j ∉ ds := by decide) : wpAnyLast P md ops Q S ds (fuel + 1) l a w := two_ _ _ hi hj hNi hNj hc hdi hdj h1 h2
theorem hx (hK : Shut (∀ a' w', S w' → (S w' → wpAnyLast P md ops Q S ds fuel l a' w') → K a' w')) (hS : S w) (k : S w → wpAnyLast P md ops Q S ds fuel l a' w) (ha : a = a' := by show Act.put _ (some _) _ = _; simp only [Act.put, List.setIfInBounds_toArray, List.set_cons_zero, List.set_cons_succ, i64_w, i32_w]; rfl) : K a w := hK.out _ _ hS (fun h => norm_ ha (k h))
theorem hy (hK : Shut (∀ a' w', wpAnyLast P md ops Q S ds fuel l a' w' → K a' w')) (k : wpAnyLast P md ops Q S ds fuel l a' w) (ha : a = a' := by show Act.put _ (some _) _ = _; simp only [Act.put, List.setIfInBounds_toArray, List.set_cons_zero, List.set_cons_succ, i64_w, i32_w]; rfl) : K a w := hK.out _ _ (norm_ ha k)
theorem cV {oi : Oper} {N : Option Tmp} {f : FuncId} {fn : Func} {as_ : Array Operand} {ts : Array TypeId} {args : Array Value} {R : Ending → World → Prop} (hf : P.funcs[f]? = some fn) (hc : Calls P f args w R) (h : ∀ e w', R e w' → ∃ v, e = .returned v ∧ K (a.put N v) w') (hname : (fn.name == "runtime.NumGoroutine") = false := by kernel_rfl) (hb : fn.body.isSome = true := by rfl)
    (hw : Region.wanted oi (yielded ops a.tmps) = true := by rfl) (hN : oi.dst = N := by rfl) (hop : oi.op = .call { callee := .value (.func f), args := as_, argTypes := ts } := by rfl) (hargs : as_.map a.eval = args := by exact mA) : if Region.wanted oi (yielded ops a.tmps) = true then Oper.wp P oi a w K Q else K (a.put N undef) w :=
  goes_ hf hname hb args hw hN hop hargs (hc.mono h)
theorem qV (i : Nat) {n : Tmp} {oi : Oper} {f : FuncId} {fn : Func} {as_ : Array Operand} {ts : Array TypeId} {args : Array Value} {v : Value} {lk : List Nat} {B b t : Nat} {w0 : World} {cs : Array Value} {L : List (Addr × Value)} (hf : P.funcs[f]? = some fn) (hc : Calls P f args w (fun e w' => e = .returned v ∧ Below w.heap.size w w')) (F : Aside0 (Fr lk B w0 w)) (hB : B ≤ w0.heap.size) (hH : Sc b cs t L w)
    (k : ∀ w1, Below w.heap.size w w1 → Aside0 (Fr lk B w0 w1) → Sc b cs t L w1 → wpAnyLast P md ops Q (Sc b cs t L) ds fuel (l.setIfInBounds i true) a' w1) (hi : ops[i]? = some oi := by rfl) (hN : oi.dst = some n := by rfl) (hc2 : readyB md ops l (l.setIfInBounds i true) i = true := by first | exact one_of HT_.out (by kernel_rfl) | kernel_rfl) (hd : i ∉ ds := by decide)
    (hname : (fn.name == "runtime.NumGoroutine") = false := by kernel_rfl) (hb : fn.body.isSome = true := by rfl) (hw : Region.wanted oi (yielded ops a.tmps) = true := by rfl) (hop : oi.op = .call { callee := .value (.func f), args := as_, argTypes := ts } := by rfl) (hargs : as_.map a.eval = args := by exact mA) (ha : a.put (some n) v = a' := by simp only [Act.put, List.setIfInBounds_toArray, List.set_cons_zero, List.set_cons_succ, i64_w, i32_w]; rfl) : wpAnyLast P md ops Q (Sc b cs t L) ds (fuel + 1) l a w :=
  oV i (fun K hK => goes_ hf hname hb args hw hN hop hargs (hc.mono (fun e w1 h => ⟨v, h.1, hK.out _ _ (hH.below h.2) (fun h2 => norm_ ha (k w1 h.2 ⟨F.out.below hB h.2⟩ h2))⟩))) hi hN hc2 hd
theorem pM (x y : Int) {w : World} {B : Nat} {ok : Nat → Prop} : Reps (k111.M w B ok) 2 [(⟨x, y⟩ : S111)] [.int .i64 x, .int .i64 y] := Reps.c2 (show Kd.M k111 _ _ _ (⟨x, y⟩ : S111) [.int .i64 x, .int .i64 y] from (k111_mkM _ _ _ (⟨x, y⟩ : S111))) (Reps.none _ _)
theorem aV {oi : Oper} {n : Tmp} {v : Value} (hK : Shut (∀ a' w', S w' → (S w' → wpAnyLast P md ops Q S ds fuel l a' w') → K a' w')) (hS : S w1) (k : S w1 → wpAnyLast P md ops Q S ds fuel l a' w1) (hw : Region.wanted oi (yielded ops a.tmps) = true := by rfl) (hN : oi.dst = some n := by rfl) (hrun : (execOp a.eval oi).run P w = .ok (.value v) w1 := by go_simp; constructor; rfl; rfl) (ha : a.put (some n) v = a' := by simp only [Act.put, List.setIfInBounds_toArray, List.set_cons_zero, List.set_cons_succ, i64_w, i32_w]; rfl) : if Region.wanted oi (yielded ops a.tmps) = true then Oper.wp P oi a w K Q else K (a.put (some n) undef) w :=
  value_ hw hN hrun (hK.out _ _ hS (fun h => norm_ ha (k h)))
theorem litF {lk : List Nat} {B : Nat} {w0 : World} (h : Fr lk B w0 w) (hB : B ≤ w0.heap.size) (hb : Below w.heap.size w w1) : w0.heap.size ≤ w.heap.size ∧ Aside0 (Fr lk B w0 w1) := ⟨h.on.1, ⟨h.below hB hb⟩⟩
theorem litQ {oi : Oper} {rest : List Oper} {xs : List S111} {inner : List Value} (hrep : Reps (k111.M w w.heap.size (fun _ => True)) 2 xs inner) (h : ∀ A C w', Kd.R k111 111 w' w.heap.size (fun _ => True) (.slice A xs.length C) xs → Below w.heap.size w w' → wpList P ops Q rest (a.put oi.dst (.slice A xs.length C)) w') (hm : xs.length ≤ 9223372036854775807 := by simp) (N : Tmp) (hN : oi.dst = some N) (hg : oi.guard = none := by rfl) (hrun : (execOp a.eval oi).run P w = .ok (.value (.slice (some ⟨w.heap.size, 0, none⟩) xs.length xs.length)) (w.alloc (.cells inner.toArray 111)) := by first | (go_simp; done) | (go_simp; rfl)) : wpList P ops Q (oi :: rest) a w :=
  Kd.R_lit k111 (w0 := w) w.heap.size 111 hg hN hrun hrep (fun _ h => h) trivial (Below.refl _ _) (Nat.le_refl _) hm (fun v w' h1 h2 _ _ => by obtain ⟨A, C, rfl⟩ := Kd.R_slice h1; exact h A C w' h1 h2)
theorem litP {oi : Oper} {N : Tmp} {xs : List S111} {inner : List Value} (hrep : Reps (k111.M w w.heap.size (fun _ => True)) 2 xs inner) (h : ∀ A C w', Kd.R k111 111 w' w.heap.size (fun _ => True) (.slice A xs.length C) xs → Below w.heap.size w w' → K (a.put (some N) (.slice A xs.length C)) w') (hm : xs.length ≤ 9223372036854775807 := by simp)
    (hw : Region.wanted oi (yielded ops a.tmps) = true := by rfl) (hN : oi.dst = some N := by rfl) (hrun : (execOp a.eval oi).run P w = .ok (.value (.slice (some ⟨w.heap.size, 0, none⟩) xs.length xs.length)) (w.alloc (.cells inner.toArray 111)) := by first | (go_simp; done) | (go_simp; rfl)) : if Region.wanted oi (yielded ops a.tmps) = true then Oper.wp P oi a w K Q else K (a.put (some N) undef) w := by
  have := Kd.R_lit_step (Kc := K) (Q := Q) k111 (w0 := w) w.heap.size 111 hw hN hrun hrep (fun _ h => h) trivial (Below.refl _ _) (Nat.le_refl _) hm (fun v w' h1 h2 _ _ => by rw [hN]; obtain ⟨A, C, rfl⟩ := Kd.R_slice h1; exact h A C w' h1 h2)
  rwa [hN] at this
end
end Go.Proofs.YtjkgponlahfnjaaGreat.Ex
namespace Go.Proofs.YtjkgponlahfnjaaGreat.Ex
open Go.RowKit Go.Proofs.YtjkgponlahfnjaaGreatW.PrintWords Go.Proofs.YtjkgponlahfnjaaGreatW.PrintLast Go.Proofs.YtjkgponlahfnjaaGreatW.PrintMore
open Go.Proofs.YtjkgponlahfnjaaGreat.QFnExactRunPage Go.Proofs.YtjkgponlahfnjaaGreat.Pure Go.Proofs.YtjkgponlahfnjaaGreat.Plain
attribute [local go_sem] Tryz.underlying46 Tryz.underlying42 Tryz.underlying38 Tryz.underlying111 Tryz.underlying40 Tryz.underlying103
def PgM (w : World) (B a : Nat) (q : Pg) : Prop := ∃ c s p v o, Rw w B c s p v o q.g.f0 q.g.f2 q.sv q.ob ∧ w.heap[a]? = some (.cells #[s, .int .i64 q.g.f1.f0, .int .i64 q.g.f1.f1, .int .i64 q.g.f1.f2, .int .i64 q.g.f1.f3, p, .int .i64 q.g.f3, .int .i64 q.g.f4.f0, .int .i64 q.g.f4.f1, .int .i64 q.g.f4.f2, .int .i64 q.g.f4.f3, v, o] 46 (0, 0))
structure Pre (w : World) (B a : Nat) (P : Pg) : Prop where
  pm : PgM w B a P
  ha : B ≤ a
  hB : B ≤ w.heap.size
  hq : 0 ≤ P.g.f1.f0 ∧ P.g.f1.f0 ≤ 3
  hn : pgN 100000 P
def Pt (w : World) (B a : Nat) (r : Option Pg) (e : Ending) (w' : World) : Prop := Below B w w' ∧ ((∃ q, r = some q ∧ e = .returned (.bool true) ∧ PgM w' B a q) ∨ (r = none ∧ e = .returned (.bool false)))
theorem Pt.yes {w w' : World} {B a : Nat} {r : Option Pg} {q : Pg} (hb : Below B w w') (hm : PgM w' B a q) (hr : r = some q) : Pt w B a r (.returned (.bool true)) w' := ⟨hb, .inl ⟨q, hr, rfl, hm⟩⟩
theorem Pt.no {w w' : World} {B a : Nat} {r : Option Pg} (hb : Below B w w') (hr : r = none) : Pt w B a r (.returned (.bool false)) w' := ⟨hb, .inr ⟨hr, rfl⟩⟩
theorem PgM.mk {w1 w' : World} {B a : Nat} {c : Nat → Nat} {s p v o : Value} {cs : Array Value} {q : Pg} (hR : Rw w1 B c s p v o q.g.f0 q.g.f2 q.sv q.ob) (a2 : Aside0 (w1.heap[a]? = some (.cells cs 46 (0, 0)))) (G : Fr [a] B w1 w') (hk : w'.heap[a]? = some (.cells #[s, .int .i64 q.g.f1.f0, .int .i64 q.g.f1.f1, .int .i64 q.g.f1.f2, .int .i64 q.g.f1.f3, p, .int .i64 q.g.f3, .int .i64 q.g.f4.f0, .int .i64 q.g.f4.f1, .int .i64 q.g.f4.f2, .int .i64 q.g.f4.f3, v, o] 46 (0, 0))) : PgM w' B a q := ⟨c, s, p, v, o, hR.on (Alien.one a2) G.on, hk⟩
theorem fin_ {w w1 w' : World} {B a : Nat} {c : Nat → Nat} {s p v o : Value} {cs : Array Value} {r : Option Pg} {e : Ending} {q : Pg} (hr : r = some q) (hR : Rw w1 B c s p v o q.g.f0 q.g.f2 q.sv q.ob) (HB : Below B w w1) (a2 : Aside0 (w1.heap[a]? = some (.cells cs 46 (0, 0)))) (he : e = .returned (.bool true) := by rfl)
    (G : Fr [a] B w1 w' := by repeat (first | (with_reducible exact Fr.refl _ _ _) | (with_reducible refine Fr.set ?_ _ _ (by simp) ha) | (with_reducible refine Fr.drewN ?_ _) | (with_reducible refine Fr.drew ?_))) (hk : w'.heap[a]? = some (.cells #[s, .int .i64 q.g.f1.f0, .int .i64 q.g.f1.f1, .int .i64 q.g.f1.f2, .int .i64 q.g.f1.f3, p, .int .i64 q.g.f3, .int .i64 q.g.f4.f0, .int .i64 q.g.f4.f1, .int .i64 q.g.f4.f2, .int .i64 q.g.f4.f3, v, o] 46 (0, 0)) := by exact kR a2) : Pt w B a r e w' :=
  he ▸ Pt.yes (HB.trans G.bl) (PgM.mk hR a2 G hk) hr
theorem fno_ {w w1 w' : World} {B a : Nat} {r : Option Pg} {e : Ending} (hr : r = none) (F : Aside0 (Fr [a] B w w1)) (he : e = .returned (.bool false) := by rfl) (G : Fr [a] B w1 w' := by repeat (first | (with_reducible exact Fr.refl _ _ _) | (with_reducible refine Fr.set ?_ _ _ (by simp) ha) | (with_reducible refine Fr.drewN ?_ _) | (with_reducible refine Fr.drew ?_))) : Pt w B a r e w' := he ▸ Pt.no (F.out.trans G).bl hr
theorem litN {wR w w4 : World} {B a : Nat} {c : Nat → Nat} {s p p' v o : Value} {st : List Int} {pa pa' : List S111} {sv : List S42} {ob : List S103} {cs : Array Value} {ok : Nat → Prop} (hR : Rw wR B c s p v o st pa sv ob) (a2 : Aside0 (wR.heap[a]? = some (.cells cs 46 (0, 0)))) (hB : B ≤ wR.heap.size) (hL : Kd.R k111 111 w4 w.heap.size ok p' pa') (hb : Below w.heap.size w w4) (F : Fr [a] B wR w) : ∃ c', Rw w4 B c' s p' v o st pa' sv ob ∧ Below B wR w4 := by
  obtain ⟨c', h⟩ := (hR.on (Alien.one a2) F.on).newP hb (Nat.le_trans hB F.on.1) hL
  exact ⟨c', h, (F.below hB hb).bl⟩
theorem litN5 {wR w w4 : World} {B a : Nat} {c : Nat → Nat} {s p p' v o : Value} {st : List Int} {pa pa' : List S111} {sv : List S42} {ob : List S103} {cs : Array Value} {ok : Nat → Prop} (hR : Rw wR B c s p v o st pa sv ob) (a2 : Aside0 (wR.heap[a]? = some (.cells cs 46 (0, 0)))) (hB : B ≤ wR.heap.size) (hL : Kd.R k111 111 w4 w.heap.size ok p' pa') (hb : Below w.heap.size w w4) (F : Fr [a] B wR w) : ∃ c', Rw w4 B c' s p' v o st pa' sv ob ∧ Below B wR w4 ∧ ∀ lv xs, Kd.R k111 111 wR B (fun k => c k = 5) lv xs → Kd.R k111 111 w4 B (fun k => c' k = 5) lv xs := by
  have hd := ((hR.on (Alien.one a2) F.on).dye 1).below hb
  exact ⟨_, ⟨hd.hs, Kd.R_lower (Kd.R_mono (Kd.R_bound hL) (fun k hk => tint_new hk.2.1)) (Nat.le_trans hB F.on.1), hd.hv, hd.ho⟩, (F.below hB hb).bl, fun _ _ h => Kd.R_below (R_dye (R_al h (Alien.one a2) (by decide) (fun _ => lt4 (by decide)) F.on)) hb⟩
end Go.Proofs.YtjkgponlahfnjaaGreat.Ex
namespace Go.Proofs.YtjkgponlahfnjaaGreat.Ex
open Go.RowKit Go.Proofs.YtjkgponlahfnjaaGreatW.PrintWords Go.Proofs.YtjkgponlahfnjaaGreatW.PrintLast Go.Proofs.YtjkgponlahfnjaaGreatW.PrintMore
open Go.Proofs.YtjkgponlahfnjaaGreat.QFnExactRunPage Go.Proofs.YtjkgponlahfnjaaGreat.Pure Go.Proofs.YtjkgponlahfnjaaGreat.Plain
theorem rng_ite {c : Prop} [Decidable c] {x y : Int × Bool} (hx : 0 ≤ x.1 ∧ x.1 ≤ 4) (hy : 0 ≤ y.1 ∧ y.1 ≤ 4) : 0 ≤ (if c then x else y).1 ∧ (if c then x else y).1 ≤ 4 := by split <;> assumption
theorem takenV_rg (a : ByteArray) : 0 ≤ (takenV a).1 ∧ (takenV a).1 ≤ 4 := by
  unfold takenV
  repeat (refine rng_ite ⟨by decide, by decide⟩ ?_)
  exact ⟨by decide, by decide⟩
theorem pushN_n (l : List Int) (n : Int) : (pushN l n).1.length ≤ l.length + 2 := by
  unfold pushN
  split <;> simp
theorem stkRes_n (a : ByteArray) (r x : List Int) : (stkRes a r x).length ≤ r.length + 2 := by
  unfold stkRes
  repeat' split
  all_goals simp
theorem stackOpV_n (l : List Int) (a : ByteArray) : (stackOpV l a).1.length ≤ l.length + 2 := by
  unfold stackOpV
  split
  · exact Nat.le_trans (stkRes_n _ _ _) (by have := (takeN_facts (l := l) (n := stkCnt a) (stkCnt_bd a).1).1; omega)
  · simp
theorem rd42_n {l : List S42} {i : Int} {m : Nat} (h : ∀ x ∈ l, x.f0.length ≤ m ∧ x.f2.length ≤ m) : (rd_T42 l i).f0.length ≤ m ∧ (rd_T42 l i).f2.length ≤ m := by
  unfold rd_T42
  rw [List.getD_eq_getElem?_getD]
  by_cases c : i.toNat < l.length
  · rw [List.getElem?_eq_getElem c]; exact h _ (List.getElem_mem c)
  · rw [List.getElem?_eq_none (by omega)]; simp [z42]
theorem ite_n {c : Prop} [Decidable c] {a b : Option Pg} (ha : ∀ q, a = some q → pgN 2000000 q) (hb : ∀ q, b = some q → pgN 2000000 q) : ∀ q, (if c then a else b) = some q → pgN 2000000 q := by split <;> assumption
theorem none_n : ∀ q : Pg, none = some q → pgN 2000000 q := fun _ h => absurd h (by simp)
theorem some_n {p : Pg} (h : pgN 2000000 p) : ∀ q, some p = some q → pgN 2000000 q := fun q e => Option.some.inj e ▸ h
theorem paint_n {p : Pg} {a : ByteArray} {x : List Int} (h : pgN 20 p) : ∀ q, paint p a x = some q → pgN 2000000 q := by
  obtain ⟨h1, h2, h3, h4, h5, h6⟩ := h
  have w4 : ∀ z ∈ p.sv, z.f0.length ≤ 2000000 ∧ z.f2.length ≤ 2000000 := fun z hz => by have := h4 z hz; omega
  have w6 : ∀ z ∈ p.ob, z.f0.length ≤ 2000000 := fun z hz => by have := h6 z hz; omega
  have base : ∀ (f0 : List Int) (f1 : S38) (f2 : List S111) (f3 : Int) (f4 : S40), f0.length ≤ 2000000 → f2.length ≤ 2000000 → pgN 2000000 ⟨⟨f0, f1, f2, f3, f4⟩, p.sv, p.ob⟩ := fun _ _ _ _ _ a b => ⟨a, b, Nat.le_trans h3 (by decide), w4, Nat.le_trans h5 (by decide), w6⟩
  unfold paint
  refine ite_n (some_n (base _ _ _ _ _ (by omega) (by simp))) (ite_n (some_n (base _ _ _ _ _ (by omega) (by simp))) (ite_n (ite_n none_n (some_n (base _ _ _ _ _ (by omega) (by simp only [List.length_append, List.length_cons, List.length_nil]; omega)))) (ite_n (ite_n (some_n (base _ _ _ _ _ (by omega) (by simp [rectP]))) none_n) (ite_n (ite_n none_n (some_n ?_)) (ite_n (some_n (base _ _ _ _ _ (by omega) (by omega))) (ite_n (ite_n none_n (some_n (base _ _ _ _ _ (by omega) (by simp)))) (ite_n (some_n ?_) (ite_n (ite_n none_n (some_n ?_)) (ite_n (some_n (base _ _ _ _ _ (by omega) (by omega))) none_n)))))))))
  · exact ⟨Nat.le_trans h1 (by decide), by simp, Nat.le_trans h3 (by decide), w4, by simp only [List.length_append, List.length_cons, List.length_nil]; omega, fun z hz => by rcases List.mem_append.1 hz with h | h; exact w6 z h; rw [List.mem_singleton.1 h]; exact Nat.le_trans h2 (by decide)⟩
  · exact ⟨Nat.le_trans h1 (by decide), Nat.le_trans h2 (by decide), by simp only [List.length_append, List.length_cons, List.length_nil]; omega, fun z hz => by rcases List.mem_append.1 hz with h | h; exact w4 z h; rw [List.mem_singleton.1 h]; exact ⟨by omega, by omega⟩, Nat.le_trans h5 (by decide), w6⟩
  · exact ⟨Nat.le_trans h1 (by decide), Nat.le_trans (rd42_n (i := (p.sv.length : Int) - 1) h4).2 (by decide), by simp only [List.length_take]; omega, fun z hz => w4 z (List.mem_of_mem_take hz), Nat.le_trans h5 (by decide), w6⟩
theorem setSt_n {p : Pg} {l : List Int} {m : Nat} (h : pgN m p) (hl : l.length ≤ m) : pgN m (setSt p l) := ⟨hl, h.2⟩
theorem stepV_n {p q : Pg} {a : ByteArray} {n : Int} (h : pgN 12 p) (hs : stepV p a n = some q) : pgN 2000000 q := by
  have hh := pgN_mono h (show 12 ≤ 2000000 by omega)
  have h0 := h.1
  have key : ∀ q, stepV p a n = some q → pgN 2000000 q := by
    unfold stepV
    refine ite_n (ite_n (some_n (setSt_n hh ?_)) none_n) (ite_n (ite_n (some_n (setSt_n hh ?_)) none_n) (ite_n (ite_n (paint_n (setSt_n (pgN_mono h (by omega)) ?_)) none_n) none_n))
    · have := pushN_n p.g.f0 n; omega
    · have := stackOpV_n p.g.f0 a; omega
    · have := (takeN_facts (l := p.g.f0) (n := (takenV a).1) (takenV_rg a).1).1; omega
  exact key q hs
end Go.Proofs.YtjkgponlahfnjaaGreat.Ex
