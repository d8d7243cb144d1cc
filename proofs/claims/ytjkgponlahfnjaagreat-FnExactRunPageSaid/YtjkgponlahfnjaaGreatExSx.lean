/- spec.l07Change on a page in memory. -/
import Derived.Test.YtjkgponlahfnjaaGreatExPS
import Derived.Test.YtjkgponlahfnjaaGreatExBd
import Derived.Test.YtjkgponlahfnjaaGreatExPt
set_option linter.unusedVariables false
set_option linter.unusedSimpArgs false
set_option maxHeartbeats 8000000
set_option maxRecDepth 100000
namespace Go.Proofs.YtjkgponlahfnjaaGreat.Ex
open Go.RowKit Go.Proofs.YtjkgponlahfnjaaGreatW.PrintWords Go.Proofs.YtjkgponlahfnjaaGreatW.PrintLast Go.Proofs.YtjkgponlahfnjaaGreatW.PrintMore
open Go.Proofs.YtjkgponlahfnjaaGreat.QFnExactRunPage Go.Proofs.YtjkgponlahfnjaaGreat.Pure Go.Proofs.YtjkgponlahfnjaaGreat.Plain
attribute [local go_sem] Tryz.underlying46 Tryz.underlying42 Tryz.underlying38 Tryz.underlying111 Tryz.underlying40 Tryz.underlying103
theorem sx_gray {nm : ByteArray} {ad : Addr} {x : Int} {C B a : Nat} {P : Pg} {w : World} (h : Pre w B a P) (hl : LdL w ad [x]) (hnm : nm.toList = [103, 114, 97, 121]) : Calls Tryz.prog 32 #[.pointer (some ⟨a, 0, none⟩), .string nm, .slice (some ad) 1 C] w (Pt w B a (paint P nm [x])) := by
  obtain ⟨⟨st, ⟨t0, t1, t2, t3⟩, pa, gr, ⟨x0, y0, x1, y1⟩⟩, sv, ob⟩ := P
  obtain ⟨⟨c, s, p, v, o, hR, hb⟩, ha, hBB, hq, hn⟩ := h
  dsimp only at hR hb hq
  have a2 := aM hb
  have HB := aM (Below.refl w.heap.size w)
  replace hR := aM hR
  go_enter Tryz.func32, Tryz.ntmps32
  go_upto_block 0 with (first | ((with_reducible refine gC 74 ?_); refine cM (some 12) Tryz.func74 (spec_Identity.calls _ _ _ _ _ rfl) ?_; rintro e w1 ⟨rfl, hb⟩; refine ⟨_, rfl, ?_⟩; replace HB := hB hb; replace a2 := kB_ a hb; clear hb) | ((with_reducible refine gD 7 ?_); refine bxE #[.int .i64 0, .int .i64 0, .int .i64 0, .int .i64 0] 38 ?_; intro b1 hg w2 b2 hb; have e1 := nL_ a hg; have e2 := nG_ a hg; have e3 := gE hg; replace HB := hB hb; replace a2 := kB_ a hb; clear hb hg; have hz := cz4 b2))
  (try simp only [Act.put, List.setIfInBounds_toArray, List.set_cons_zero, List.set_cons_succ])
  obtain ⟨w3, hw⟩ : ∃ w3, w3 = (((w2.setCell ⟨b1, 0, none⟩ (.int .i64 0)).setCell ⟨b1, 1, none⟩ (.int .i64 1)).setCell ⟨b1, 2, none⟩ (.int .i64 0)).setCell ⟨b1, 3, none⟩ (.int .i64 0) := ⟨_, rfl⟩
  have HB3 : Aside0 (Below w.heap.size w w3) := ⟨by rw [hw]; exact bS⟩
  have a3 : Aside0 (w3.heap[a]? = some (.cells #[s, .int .i64 t0, .int .i64 t1, .int .i64 t2, .int .i64 t3, p, .int .i64 gr, .int .i64 x0, .int .i64 y0, .int .i64 x1, .int .i64 y1, v, o] 46 (0, 0))) := ⟨by rw [hw]; exact kS⟩
  have b3 : Aside0 (w3.heap[b1]? = some (.cells #[.int .i64 0, .int .i64 1, .int .i64 0, .int .i64 0] 38 (0, 0))) := ⟨by rw [hw]; exact kS⟩
  rw [← hw]
  clear hw HB hz
  have b0 := b2
  clear b2 a2
  have b2 := b3
  have a2 := a3
  have HB := HB3
  clear b3 a3 HB3 b0
  have hz := cz4 b2
  have hz2 := nP e1 e2
  have F := aM (Fr.of (l := [a]) hBB HB.out)
  replace hl := hl.below HB.out
  have hl0 := hl _ (List.mem_cons_self ..)
  have hz3 := cz13 a2
  try go_wp2
  go_ret
  exact fin_ (q := ⟨⟨st, ⟨t0, t1, t2, t3⟩, pa, x, ⟨x0, y0, x1, y1⟩⟩, sv, ob⟩) (by simp [paint, hnm, rd]) (hR.out.on (Alien.one ⟨hb⟩) F.out.on) F.out.bl a2
theorem sx_save {nm : ByteArray} {A : Option Addr} {C B a : Nat} {P : Pg} {w : World} (h : Pre w B a P) (hnm : nm.toList = [115, 97, 118, 101]) : Calls Tryz.prog 32 #[.pointer (some ⟨a, 0, none⟩), .string nm, .slice A 0 C] w (Pt w B a (paint P nm [])) := by
  obtain ⟨⟨st, ⟨t0, t1, t2, t3⟩, pa, gr, ⟨x0, y0, x1, y1⟩⟩, sv, ob⟩ := P
  obtain ⟨⟨c, s, p, v, o, hR, hb⟩, ha, hBB, hq, hn⟩ := h
  dsimp only at hR hb hq
  have a2 := aM hb
  have HB := aM (Below.refl w.heap.size w)
  replace hR := aM hR
  obtain ⟨pA, pC, rfl⟩ := Kd.R_slice hR.out.hp
  obtain ⟨sA, sC, rfl⟩ := Kd.R_slice hR.out.hs
  obtain ⟨vA, vC, rfl⟩ := Kd.S_slice hR.out.hv
  go_enter Tryz.func32, Tryz.ntmps32
  go_upto_block 0 with (first | ((with_reducible refine gC 74 ?_); refine cM (some 12) Tryz.func74 (spec_Identity.calls _ _ _ _ _ rfl) ?_; rintro e w1 ⟨rfl, hb⟩; refine ⟨_, rfl, ?_⟩; replace HB := hB hb; replace a2 := kB_ a hb; clear hb) | ((with_reducible refine gD 7 ?_); refine bxE #[.int .i64 0, .int .i64 0, .int .i64 0, .int .i64 0] 38 ?_; intro b1 hg w2 b2 hb; have e1 := nL_ a hg; have e2 := nG_ a hg; have e3 := gE hg; replace HB := hB hb; replace a2 := kB_ a hb; clear hb hg; have hz := cz4 b2))
  (try simp only [Act.put, List.setIfInBounds_toArray, List.set_cons_zero, List.set_cons_succ])
  obtain ⟨w3, hw⟩ : ∃ w3, w3 = (((w2.setCell ⟨b1, 0, none⟩ (.int .i64 0)).setCell ⟨b1, 1, none⟩ (.int .i64 1)).setCell ⟨b1, 2, none⟩ (.int .i64 0)).setCell ⟨b1, 3, none⟩ (.int .i64 0) := ⟨_, rfl⟩
  have HB3 : Aside0 (Below w.heap.size w w3) := ⟨by rw [hw]; exact bS⟩
  have a3 : Aside0 (w3.heap[a]? = some (.cells #[.slice sA st.length sC, .int .i64 t0, .int .i64 t1, .int .i64 t2, .int .i64 t3, .slice pA pa.length pC, .int .i64 gr, .int .i64 x0, .int .i64 y0, .int .i64 x1, .int .i64 y1, .slice vA sv.length vC, o] 46 (0, 0))) := ⟨by rw [hw]; exact kS⟩
  have b3 : Aside0 (w3.heap[b1]? = some (.cells #[.int .i64 0, .int .i64 1, .int .i64 0, .int .i64 0] 38 (0, 0))) := ⟨by rw [hw]; exact kS⟩
  rw [← hw]
  clear hw HB hz
  have b0 := b2
  clear b2 a2
  have b2 := b3
  have a2 := a3
  have HB := HB3
  clear b3 a3 HB3 b0
  have hz := cz4 b2
  have hz2 := nP e1 e2
  have F := aM (Fr.of (l := [a]) hBB HB.out)
  have n1 := hn.1
  have n2 := hn.2.1
  simp only at n1 n2
  have hbw := hb
  have hR3 := hR.out.on (Alien.one ⟨hbw⟩) F.out.on
  try go_wp2
  refine sta 15 [11, 14] [] a2 (by simp) F (fun w0 hb0 F hHeld => ?_)
  refine pV 0 ?_
  refine pV 1 ?_
  refine pV 2 ?_
  refine pV 3 ?_
  refine pV 5 ?_
  refine pV 6 ?_
  refine pV 7 ?_
  refine tV 4 ?_
  refine tV 8 ?_
  refine oV 9 (fun K hK => ?_)
  refine cV Tryz.func67 (spec_l07Graphics.calls _ _ st t0 t1 t2 t3 _ _ pa gr x0 y0 x1 y1 _ _ _ _ _ _ _ _ _ _ _ _ (Kd.R_reads' (Kd.R_below hR3.hs hb0)).2.2 (Kd.R_reads' hR.out.hs).2.1 (Kd.R_reads' (Kd.R_below hR3.hp hb0)).2.2 (Kd.R_reads' hR.out.hp).2.1 (sGr_eq st t0 t1 t2 t3 pa gr x0 y0 x1 y1 (by omega) (by omega))) ?_
  rintro e w1 ⟨r, r5, rfl, hr, hr5, hb⟩
  refine ⟨_, rfl, ?_⟩
  obtain ⟨rA, rC, rfl⟩ := Kd.R_slice hr
  obtain ⟨qA, qC, rfl⟩ := Kd.R_slice hr5
  have hd := ((hR.out.on (Alien.one ⟨hbw⟩) F.out.on).dye 4).below hb
  have h4 := Kd.R_lower (Kd.R_mono (Kd.R_bound hr) (fun k hk => tint_new (c := c) (i := 4) hk.2.1)) (Nat.le_trans hBB F.out.on.1)
  have h5 := Kd.R_lower (Kd.R_mono (Kd.R_bound hr5) (fun k hk => tint_new (c := c) (i := 4) hk.2.1)) (Nat.le_trans hBB F.out.on.1)
  replace F := aM (F.out.below hBB hb)
  refine hx hK (hHeld.below hb) (fun hHeld => ?_)
  clear hK K hb hr hr5
  refine oV 10 (fun K hK => ?_)
  refine aV hK (hHeld.alloc _) (fun hHeld2 => ?_)
  clear hK K hHeld2
  refine lV 11 (fun K hK => ?_)
  refine Rw.appV (x := ⟨st, ⟨t0, t1, t2, t3⟩, pa, gr, ⟨x0, y0, x1, y1⟩⟩) hd h4 h5 (.tmp 29) (.tmp 35) F.out.bl (Nat.le_trans hBB F.out.on.1) (by rfl) rfl Tryz.underlying43 info42 rfl rfl (by have := hn.2.2.1; simp only at this; omega) (fun pB pN pD w3 hR3 hb ht => ?_)
  obtain ⟨c, hR⟩ := hR3
  replace a2 := aM (ht _ _ _ hHeld.1 (by decide))
  refine hy hK ?_
  clear hK K
  refine pV 12 ?_
  refine pV 13 ?_
  refine sV 14 ?_
  refine done_ (by kernel_rfl) ?_
  try go_wp2
  go_ret
  exact fin_ (q := ⟨⟨st, ⟨t0, t1, t2, t3⟩, pa, gr, ⟨x0, y0, x1, y1⟩⟩, sv ++ [⟨st, ⟨t0, t1, t2, t3⟩, pa, gr, ⟨x0, y0, x1, y1⟩⟩], ob⟩) (by simp [paint, hnm]) hR hb a2
theorem sx_restore {nm : ByteArray} {A : Option Addr} {C B a : Nat} {P : Pg} {w : World} (h : Pre w B a P) (hnm : nm.toList = [114, 101, 115, 116, 111, 114, 101]) : Calls Tryz.prog 32 #[.pointer (some ⟨a, 0, none⟩), .string nm, .slice A 0 C] w (Pt w B a (paint P nm [])) := by
  obtain ⟨⟨st, ⟨t0, t1, t2, t3⟩, pa, gr, ⟨x0, y0, x1, y1⟩⟩, sv, ob⟩ := P
  obtain ⟨⟨c, s, p, v, o, hR, hb⟩, ha, hBB, hq, hn⟩ := h
  dsimp only at hR hb hq
  have a2 := aM hb
  have HB := aM (Below.refl w.heap.size w)
  replace hR := aM hR
  obtain ⟨pA, pC, rfl⟩ := Kd.R_slice hR.out.hp
  obtain ⟨sA, sC, rfl⟩ := Kd.R_slice hR.out.hs
  obtain ⟨vA, vC, rfl⟩ := Kd.S_slice hR.out.hv
  go_enter Tryz.func32, Tryz.ntmps32
  go_upto_block 0 with (first | ((with_reducible refine gC 74 ?_); refine cM (some 12) Tryz.func74 (spec_Identity.calls _ _ _ _ _ rfl) ?_; rintro e w1 ⟨rfl, hb⟩; refine ⟨_, rfl, ?_⟩; replace HB := hB hb; replace a2 := kB_ a hb; clear hb) | ((with_reducible refine gD 7 ?_); refine bxE #[.int .i64 0, .int .i64 0, .int .i64 0, .int .i64 0] 38 ?_; intro b1 hg w2 b2 hb; have e1 := nL_ a hg; have e2 := nG_ a hg; have e3 := gE hg; replace HB := hB hb; replace a2 := kB_ a hb; clear hb hg; have hz := cz4 b2))
  (try simp only [Act.put, List.setIfInBounds_toArray, List.set_cons_zero, List.set_cons_succ])
  obtain ⟨w3, hw⟩ : ∃ w3, w3 = (((w2.setCell ⟨b1, 0, none⟩ (.int .i64 0)).setCell ⟨b1, 1, none⟩ (.int .i64 1)).setCell ⟨b1, 2, none⟩ (.int .i64 0)).setCell ⟨b1, 3, none⟩ (.int .i64 0) := ⟨_, rfl⟩
  have HB3 : Aside0 (Below w.heap.size w w3) := ⟨by rw [hw]; exact bS⟩
  have a3 : Aside0 (w3.heap[a]? = some (.cells #[.slice sA st.length sC, .int .i64 t0, .int .i64 t1, .int .i64 t2, .int .i64 t3, .slice pA pa.length pC, .int .i64 gr, .int .i64 x0, .int .i64 y0, .int .i64 x1, .int .i64 y1, .slice vA sv.length vC, o] 46 (0, 0))) := ⟨by rw [hw]; exact kS⟩
  have b3 : Aside0 (w3.heap[b1]? = some (.cells #[.int .i64 0, .int .i64 1, .int .i64 0, .int .i64 0] 38 (0, 0))) := ⟨by rw [hw]; exact kS⟩
  rw [← hw]
  clear hw HB hz
  have b0 := b2
  clear b2 a2
  have b2 := b3
  have a2 := a3
  have HB := HB3
  clear b3 a3 HB3 b0
  have hz := cz4 b2
  have hz2 := nP e1 e2
  have F := aM (Fr.of (l := [a]) hBB HB.out)
  have hbw := hb
  have hR3 := hR.out.on (Alien.one ⟨hbw⟩) F.out.on
  have a0 := a2
  have hz3 := cz13 a2
  by_cases e0 : sv = []
  · subst e0
    try go_wp2
    go_ret
    exact fno_ (by simp [paint, hnm]) F
  have e1' : 0 < sv.length := Nat.pos_of_ne_zero (fun h => e0 (List.eq_nil_of_length_eq_zero h))
  have e2' : ((sv.length : Int) == 0) = false := beq_eq_false_iff_ne.mpr (by omega)
  obtain ⟨ad, rfl⟩ : ∃ ad, vA = some ad := by
    obtain ⟨g, cap, hv, _⟩ := Kd.S_form hR3.hv e1'
    exact ⟨_, (slE hv).1.symm⟩
  have hcap := (Kd.S_reads' hR3.hv).2.1
  obtain ⟨c1, A5, C5, v0, hR1, hcc, A0, C0, rfl⟩ := hR3.popV e1'
  obtain ⟨i, hi⟩ : ∃ i : Int, i = (sv.length : Int) - 1 := ⟨_, rfl⟩
  have hin : i.toNat = sv.length - 1 := by omega
  have hw : IntKind.i64.wrap ((sv.length : Int) - 1) = i := by rw [i64_w, hi]; exact wrap_id (by omega) (by have := hn.2.2.1; simp only at this; omega)
  have hi0 : (0 ≤ i) = True := eq_true (by omega)
  have hi1 : (i < (sv.length : Int)) = True := eq_true (by omega)
  have hi2 : (i ≤ (sv.length : Int)) = True := eq_true (by omega)
  obtain ⟨i0, hi4, _, _, _⟩ := info_parts info42
  have hcut := cut_to (P := Tryz.prog) 43 42 .i64 Tryz.underlying43 hi4 (some ad) sv.length vC i (by omega) (by omega) hcap
  rw [← hi] at hR1 hcc
  rw [← hin] at hR1 hcc
  generalize hxx : rd_T42 sv i = x at hR1 hcc
  have hcs := l11_of hcc
  replace hin := aM hin
  replace hi := aM hi
  replace hxx := aM hxx
  simp only [l11, List.forall_mem_cons, List.not_mem_nil, false_implies, implies_true, and_true] at hcs
  clear hcc
  try go_wp2
  go_ret
  exact fin_ (q := ⟨⟨st, x.f1, x.f2, x.f3, x.f4⟩, sv.take i.toNat, ob⟩) (by simp [paint, hnm, e0, ← hi.out, hxx.out]) hR1 F.out.bl a2
theorem sx_turn {nm : ByteArray} {ad : Addr} {l : List Int} {C B a : Nat} {P : Pg} {w : World} (h : Pre w B a P) (hl : LdL w ad l) (hnm : (nm.toList = [115, 104, 105, 102, 116] ∧ ∃ x y, l = [x, y]) ∨ ((nm.toList = [116, 117, 114, 110] ∨ nm.toList = [115, 99, 97, 108, 101]) ∧ ∃ x, l = [x])) : Calls Tryz.prog 32 #[.pointer (some ⟨a, 0, none⟩), .string nm, .slice (some ad) l.length C] w (Pt w B a (paint P nm l)) := by
  obtain ⟨⟨st, ⟨t0, t1, t2, t3⟩, pa, gr, ⟨x0, y0, x1, y1⟩⟩, sv, ob⟩ := P
  obtain ⟨⟨c, s, p, v, o, hR, hb⟩, ha, hBB, hq, hn⟩ := h
  dsimp only at hR hb hq
  have a2 := aM hb
  have HB := aM (Below.refl w.heap.size w)
  replace hR := aM hR
  have hp : paint ⟨⟨st, ⟨t0, t1, t2, t3⟩, pa, gr, ⟨x0, y0, x1, y1⟩⟩, sv, ob⟩ nm l = if (joinV (otherT nm l) ⟨t0, t1, t2, t3⟩).2 = true then some ⟨⟨st, (joinV (otherT nm l) ⟨t0, t1, t2, t3⟩).1, pa, gr, ⟨x0, y0, x1, y1⟩⟩, sv, ob⟩ else none := by
    rcases hnm with ⟨hnm, _⟩ | ⟨hnm | hnm, _⟩ <;> simp [paint, hnm]
  generalize paint ⟨⟨st, ⟨t0, t1, t2, t3⟩, pa, gr, ⟨x0, y0, x1, y1⟩⟩, sv, ob⟩ nm l = r at hp ⊢
  replace hp := aM hp
  have hne : ∀ X ∈ ([[103, 114, 97, 121], [115, 97, 118, 101], [114, 101, 115, 116, 111, 114, 101]] : List (List UInt8)), (nm.toList == X) = false := by
    rcases hnm with ⟨hnm, _⟩ | ⟨hnm | hnm, _⟩ <;> rw [hnm] <;> decide
  simp only [List.forall_mem_cons, List.not_mem_nil, false_implies, implies_true, and_true] at hne
  have hl0 := hl
  go_enter Tryz.func32, Tryz.ntmps32
  go_upto_block 0 with (first | ((with_reducible refine gC 74 ?_); refine cM (some 12) Tryz.func74 (spec_Identity.calls _ _ _ _ _ rfl) ?_; rintro e w1 ⟨rfl, hb⟩; refine ⟨_, rfl, ?_⟩; replace HB := hB hb; replace a2 := kB_ a hb; clear hb) | ((with_reducible refine gD 7 ?_); refine bxE #[.int .i64 0, .int .i64 0, .int .i64 0, .int .i64 0] 38 ?_; intro b1 hg w2 b2 hb; have e1 := nL_ a hg; have e2 := nG_ a hg; have e3 := gE hg; replace HB := hB hb; replace a2 := kB_ a hb; clear hb hg; have hz := cz4 b2))
  (try simp only [Act.put, List.setIfInBounds_toArray, List.set_cons_zero, List.set_cons_succ])
  obtain ⟨w3, hw⟩ : ∃ w3, w3 = (((w2.setCell ⟨b1, 0, none⟩ (.int .i64 0)).setCell ⟨b1, 1, none⟩ (.int .i64 1)).setCell ⟨b1, 2, none⟩ (.int .i64 0)).setCell ⟨b1, 3, none⟩ (.int .i64 0) := ⟨_, rfl⟩
  have HB3 : Aside0 (Below w.heap.size w w3) := ⟨by rw [hw]; exact bS⟩
  have a3 : Aside0 (w3.heap[a]? = some (.cells #[s, .int .i64 t0, .int .i64 t1, .int .i64 t2, .int .i64 t3, p, .int .i64 gr, .int .i64 x0, .int .i64 y0, .int .i64 x1, .int .i64 y1, v, o] 46 (0, 0))) := ⟨by rw [hw]; exact kS⟩
  have b3 : Aside0 (w3.heap[b1]? = some (.cells #[.int .i64 0, .int .i64 1, .int .i64 0, .int .i64 0] 38 (0, 0))) := ⟨by rw [hw]; exact kS⟩
  rw [← hw]
  clear hw HB hz
  have b0 := b2
  clear b2 a2
  have b2 := b3
  have a2 := a3
  have HB := HB3
  clear b3 a3 HB3 b0
  have hz := cz4 b2
  have hz2 := nP e1 e2
  have F := aM (Fr.of (l := [a]) hBB HB.out)
  replace hl := hl.below HB.out
  go_cut [] (fun wc => ∃ d0 d1 d2 d3 : Int, otherT nm l = ⟨d0, d1, d2, d3⟩ ∧ Aside0 (Below w.heap.size w wc) ∧ Aside0 (wc.heap[a]? = some (.cells #[s, .int .i64 t0, .int .i64 t1, .int .i64 t2, .int .i64 t3, p, .int .i64 gr, .int .i64 x0, .int .i64 y0, .int .i64 x1, .int .i64 y1, v, o] 46 (0, 0))) ∧ Aside0 (wc.heap[b1]? = some (.cells #[.int .i64 d0, .int .i64 d1, .int .i64 d2, .int .i64 d3] 38 (0, 0))))
  case first =>
   clear F
   rcases hnm with ⟨hnm, x, y, rfl⟩ | ⟨hnm | hnm, x, rfl⟩
   · have hl3 := hl
     simp only [LdL, ldl, List.forall_mem_cons, List.not_mem_nil, false_implies, implies_true, and_true] at hl3
     have hne2 : ad.block ≠ b1 := by have h1 : ad.block < w.heap.size := World.block_lt_of_cell? _ _ (hl0 _ (List.mem_cons_self ..)); have h2 := e3.out; omega
     try go_wp2
     go_meet
     case rel => exact ⟨0, 1, x, y, by simp [otherT, hnm, rd], ⟨bS⟩, ⟨kS⟩, ⟨kS⟩⟩
   · have hx := hl _ (List.mem_cons_self ..)
     try go_wp2
     go_meet
     case rel => exact ⟨x, 1, 0, 0, by simp [otherT, hnm, rd], ⟨bS⟩, ⟨kS⟩, ⟨kS⟩⟩
   · have hx := hl _ (List.mem_cons_self ..)
     try go_wp2
     go_meet
     case rel => exact ⟨0, x, 0, 0, by simp [otherT, hnm, rd], ⟨bS⟩, ⟨kS⟩, ⟨kS⟩⟩
  case rest =>
   obtain ⟨d0, d1, d2, d3, ho, HB, a2, b2⟩ := hcut
   obtain ⟨k1, h1⟩ := sJoinV_ev ⟨d0, d1, d2, d3⟩ ⟨t0, t1, t2, t3⟩
   replace h1 := h1 k1 (Nat.le_refl _)
   replace hp := hp.out
   rw [ho] at hp
   generalize joinV ⟨d0, d1, d2, d3⟩ ⟨t0, t1, t2, t3⟩ = J at h1 hp
   obtain ⟨⟨q0, q1, q2, q3⟩, ok⟩ := J
   replace hp := aM hp
   try go_wp2
   refine sta (w0 := w) (lk := [a]) (B := B) 13 [11] [(⟨b1, 0, none⟩, .int .i64 d0), (⟨b1, 1, none⟩, .int .i64 d1), (⟨b1, 2, none⟩, .int .i64 d2), (⟨b1, 3, none⟩, .int .i64 d3)] a2 (by have := cz4 b2; simp [this]) ⟨Fr.of hBB HB.out⟩ (fun w4 hb0 F hHeld => ?_)
   refine pV 1 ?_
   refine pV 2 ?_
   refine pV 3 ?_
   refine pV 4 ?_
   refine tV 0 ?_
   refine tV 5 ?_
   refine join_ (σ := Nat) 2 (mB 13 2047) (fun s_ => [(108, .tuple #[.agg #[.int .i64 q0, .int .i64 q1, .int .i64 q2, .int .i64 q3], .bool ok]), (10, .pointer (some ⟨s_, 0, none⟩)), (101, .tuple #[.agg #[.int .i64 q0, .int .i64 q1, .int .i64 q2, .int .i64 q3], .bool ok]), (109, .agg #[.int .i64 q0, .int .i64 q1, .int .i64 q2, .int .i64 q3]), (110, .bool ok)]) (fun g w' => (Below w4.heap.size w4 w' ∧ w4.heap.size ≤ g) ∧ w'.heap[g]? = some (.cells #[.int .i64 0, .int .i64 0, .int .i64 0, .int .i64 0] 38 (0, 0))) ?_ ?_
   · rintro g w5 ⟨⟨hb5, hg⟩, b3⟩
     have b2 := aM b3
     have e4 : a ≠ g := by have := blk_lt hHeld.1; omega
     have e5 := Ne.symm e4
     have e6 := aM e4
     replace a2 := aM (hHeld.below hb5).1
     replace F := aM (F.out.below hBB hb5)
     have hR5 := hR.out.on (Alien.one ⟨hb⟩) F.out.on
     have hg0 : w.heap.size ≤ g := Nat.le_trans (Nat.le_trans HB.out.size hb0.size) hg
     refine norm_ (a' := ?_) ?_ ?_
     rotate_left
     · simp only [putAll, Act.put, List.setIfInBounds_toArray, List.set_cons_zero, List.set_cons_succ]
       rfl
     refine sV 11 ?_
     refine pV 12 ?_
     refine done_ (by kernel_rfl) ?_
     have hz := cz13 a2
     have hz4 := cz4 b2
     cases ok with
     | false =>
       try go_wp2
       go_ret
       refine fno_ (w1 := w) (by rw [hp.out]; rfl) ⟨Fr.refl _ _ _⟩ rfl ?_
       repeat (first | (with_reducible exact F.out) | (with_reducible refine Fr.set ?_ _ _ (by simp) ha) | (with_reducible refine Fr.new ?_ _ _ hBB hg0))
     | true =>
       try go_wp2
       go_ret
       refine fin_ (w1 := w) (q := ⟨⟨st, ⟨q0, q1, q2, q3⟩, pa, gr, ⟨x0, y0, x1, y1⟩⟩, sv, ob⟩) (by rw [hp.out]; rfl) hR.out (Below.refl _ _) ⟨hb⟩ rfl ?_ kS
       repeat (first | (with_reducible exact F.out) | (with_reducible refine Fr.set ?_ _ _ (by simp) ha) | (with_reducible refine Fr.new ?_ _ _ hBB hg0))
   · intro hCont
     refine twV 6 10 (fun K hK => ?_) (fun K hK => ?_)
     · refine cV Tryz.func75 (spec_JoinTurns.calls k1 d0 d1 d2 d3 t0 t1 t2 t3 q0 q1 q2 q3 ok _ h1) ?_
       rintro e w5 ⟨rfl, hb⟩
       refine ⟨_, rfl, ?_⟩
       refine hx hK (hHeld.below hb) (fun hHeld => ?_)
       clear hK K
       refine pV 7 ?_
       refine pV 8 ?_
       refine pV 9 ?_
       refine oV 10 (fun K hK => ?_)
       refine bV #[.int .i64 0, .int .i64 0, .int .i64 0, .int .i64 0] 38 (fun g hg w6 b3 hb6 => ?_)
       refine hx hK (hHeld.below hb6) (fun hHeld => ?_)
       exact nV (norm_ (by simp only [putAll, Act.put, List.setIfInBounds_toArray, List.set_cons_zero, List.set_cons_succ]) (hCont g _ ⟨⟨below_step hb hb6, by rw [hg]; exact hb.size⟩, b3⟩))
     · refine bV #[.int .i64 0, .int .i64 0, .int .i64 0, .int .i64 0] 38 (fun g hg w6 b3 hb6 => ?_)
       refine hx hK (hHeld.below hb6) (fun hHeld => ?_)
       clear hK K
       refine oV 6 (fun K hK => ?_)
       refine cV Tryz.func75 (spec_JoinTurns.calls k1 d0 d1 d2 d3 t0 t1 t2 t3 q0 q1 q2 q3 ok _ h1) ?_
       rintro e w5 ⟨rfl, hb⟩
       refine ⟨_, rfl, ?_⟩
       refine hx hK (hHeld.below hb) (fun hHeld => ?_)
       clear hK K
       refine pV 7 ?_
       refine pV 8 ?_
       refine pV 9 ?_
       exact nV (norm_ (by simp only [putAll, Act.put, List.setIfInBounds_toArray, List.set_cons_zero, List.set_cons_succ]) (hCont g _ ⟨⟨below_step hb6 hb, Nat.le_of_eq hg.symm⟩, blk_below b3 hb⟩))
end Go.Proofs.YtjkgponlahfnjaaGreat.Ex
namespace Go.Proofs.YtjkgponlahfnjaaGreat.Ex
open Go.RowKit Go.Proofs.YtjkgponlahfnjaaGreatW.PrintWords Go.Proofs.YtjkgponlahfnjaaGreatW.PrintLast Go.Proofs.YtjkgponlahfnjaaGreatW.PrintMore
open Go.Proofs.YtjkgponlahfnjaaGreat.QFnExactRunPage Go.Proofs.YtjkgponlahfnjaaGreat.Pure Go.Proofs.YtjkgponlahfnjaaGreat.Plain
theorem nm_no (a : ByteArray) (h : inB (a.size : Int) 1 8 = false) : nameOk a = false := by
  unfold nameOk
  by_cases c : (a.size : Int) < 1
  · rw [if_pos c]
  · rw [if_neg c]
    by_cases c2 : (a.size : Int) > 8
    · rw [if_pos c2]
    · have h2 : inB (a.size : Int) 1 8 = true := inB_iff.2 ⟨by omega, by omega⟩
      rw [h] at h2; exact absurd h2 (by decide)
theorem nm_yes (a : ByteArray) (h : inB (a.size : Int) 1 8 = true) : nameOk a = nmFrom a a.size 0 := by
  have := inB_iff.1 h
  unfold nameOk
  rw [if_neg (by omega), if_neg (by omega)]
theorem sIsName_ev (a : ByteArray) (hs : a.size ≤ 2000000) : Ev (fun k => spec_IsName.f k a) (nameOk a) := by
  simp only [spec_IsName.f]
  have e : nameOk a = (nmFrom a a.size 0 && inB (a.size : Int) 1 8) := by
    cases h : inB (a.size : Int) 1 8 with
    | false => rw [nm_no a h, Bool.and_false]
    | true => rw [nm_yes a h, Bool.and_true]
  rw [e]
  have main : ∀ (n : Nat) (i : Int), 0 ≤ i → i + n = a.size → Ev (fun k => spec_IsName.l0 k a i) (nmFrom a n i && inB (a.size : Int) 1 8) := by
    intro n
    induction n with
    | zero =>
      intro i h0 h1
      refine Ev.up ?_
      simp only [spec_IsName.l0, if_neg (show ¬ i < (a.size : Int) by omega), l01In_eq, Option.bind_some, nmFrom, Bool.true_and]
      exact Ev.now _
    | succ n ih =>
      intro i h0 h1
      refine Ev.up ?_
      have hw : wrap64 (i + 1) = i + 1 := wrap_id (by omega) (by omega)
      simp only [spec_IsName.l0, if_pos (show i < (a.size : Int) by omega), if_pos h0, hw, nmFrom]
      exact Ev.ite (fun z => by rw [if_pos z]; exact Ev.now _) (fun z => by rw [if_neg z]; exact Ev.ite (fun z2 => by rw [if_pos z2]; exact Ev.now _) (fun z2 => by rw [if_neg z2]; exact ih (i + 1) (by omega) (by omega)))
  exact main a.size 0 (by omega) (by omega)
theorem sTokenOk_ev (a : ByteArray) (n : Int) (hs : a.size ≤ 2000000) : Ev (fun k => spec_TokenOk.f k a n) (tokOk a n) := by
  simp only [spec_TokenOk.f]
  unfold tokOk
  refine Ev.ite (fun z => ?_) (fun z => ?_)
  · simp only [if_pos z, l01In_eq, Option.bind_some]; exact Ev.now _
  · simp only [if_neg z]
    exact Ev.bind (sIsName_ev a hs) (Ev.andB (fun _ => Ev.now _))
theorem sPageOkP_ev (p : Pg) (h : pgN 2000000 p) : Ev (fun k => spec_PageOk.f k p.g.f0 p.g.f1.f0 p.g.f1.f1 p.g.f1.f2 p.g.f1.f3 p.g.f2 p.g.f3 p.g.f4.f0 p.g.f4.f1 p.g.f4.f2 p.g.f4.f3 p.sv p.ob) (okP p) := by
  obtain ⟨h1, h2, h3, h4, h5, h6⟩ := h
  exact sPageOk_ev p.g.f0 p.g.f1.f0 p.g.f1.f1 p.g.f1.f2 p.g.f1.f3 p.g.f2 p.g.f3 p.g.f4.f0 p.g.f4.f1 p.g.f4.f2 p.g.f4.f3 p.sv p.ob (by rw [maxLen_eq]; omega) (by rw [maxLen_eq]; omega) (by rw [maxLen_eq]; omega) (fun x hx => by have := h4 x hx; rw [maxLen_eq]; omega) (by rw [maxLen_eq]; omega) (fun x hx => by have := h6 x hx; rw [maxLen_eq]; omega)
theorem sTake_ev (l : List Int) (n : Int) (hl : l.length ≤ 2000000) (hn : 0 ≤ n) (hn2 : n ≤ 100) : Ev (fun k => spec_TakeNumbers.f k l n) (takeN l n) := by
  simp only [spec_TakeNumbers.f, l01In_eq, Option.bind_some]
  unfold takeN
  have no : Ev (fun k => spec_TakeNumbers.j0 k l n true) (l, [], false) := Ev.up (by simp only [spec_TakeNumbers.j0, if_true, sCopy_eq l hl, Option.bind_some]; exact Ev.now _)
  refine Ev.bind (sStackOk_ev l (by rw [maxLen_eq]; omega)) ?_
  cases hs : stkOk l with
  | false => simp only [Bool.false_eq_true, if_false, false_and]; exact no
  | true =>
    simp only [if_true, true_and]
    cases hb : inB n 0 (l.length : Int) with
    | false => simp only [Bool.not_false, Bool.false_eq_true, if_false]; exact no
    | true =>
      have hb2 := inB_iff.1 hb
      have hw : wrap64 ((l.length : Int) - n) = (l.length : Int) - n := wrap_id (by omega) (by omega)
      refine Ev.up ?_
      simp only [Bool.not_true, spec_TakeNumbers.j0, Bool.false_eq_true, if_false, hw, if_pos (show 0 ≤ (l.length : Int) - n by omega), if_pos (show (l.length : Int) - n ≤ (l.length : Int) by omega), if_true]
      rw [sCopy_eq _ (by rw [List.length_take]; omega), sCopy_eq _ (by rw [List.length_drop]; omega)]
      exact Ev.now _
theorem sPush_ev (l : List Int) (n : Int) (hl : l.length ≤ 2000000) : Ev (fun k => spec_PushNumber.f k l n) (pushN l n) := by
  simp only [spec_PushNumber.f, sCopy_eq l hl, Option.bind_some, if_pos (show l.length < 17592186044416 by omega)]
  unfold pushN
  refine Ev.bind (sStackOk_ev l (by rw [maxLen_eq]; omega)) ?_
  cases hs : stkOk l with
  | false => simp only [Bool.false_eq_true, if_false, false_and]; exact Ev.now _
  | true =>
    simp only [if_true, true_and]
    refine Ev.bind (sStackOk_ev (l ++ [n]) (by rw [maxLen_eq, List.length_append, List.length_singleton]; omega)) ?_
    exact Ev.iteB (fun h => by rw [if_pos h]; exact Ev.now _) (fun h => by rw [h]; simp only [Bool.false_eq_true, if_false]; exact Ev.now _)
theorem sIsStackOp_eq (a : ByteArray) : spec_IsStackOp.f a = some (isOp a) := by
  unfold spec_IsStackOp.f isOp
  repeat' split
  all_goals rfl
def tksV (a : ByteArray) : Int :=
  if a.toList = ([110, 101, 119] : List UInt8) then 0 else if a.toList = ([102, 105, 108, 108] : List UInt8) then 0 else if a.toList = ([99, 108, 105, 112] : List UInt8) then 0 else if a.toList = ([115, 97, 118, 101] : List UInt8) then 0 else if a.toList = ([114, 101, 115, 116, 111, 114, 101] : List UInt8) then 0
  else if a.toList = ([103, 114, 97, 121] : List UInt8) then 1 else if a.toList = ([116, 117, 114, 110] : List UInt8) then 1 else if a.toList = ([115, 99, 97, 108, 101] : List UInt8) then 1
  else if a.toList = ([109, 111, 118, 101, 116, 111] : List UInt8) then 2 else if a.toList = ([108, 105, 110, 101, 116, 111] : List UInt8) then 2 else if a.toList = ([115, 104, 105, 102, 116] : List UInt8) then 2 else if a.toList = ([114, 101, 99, 116] : List UInt8) then 4 else -1
theorem tks_ite {c : Prop} [Decidable c] {n : Int} {x : Int} {y : Int × Bool} (h : x = if y.2 = true then y.1 else -1) : (if c then n else x) = if (if c then (n, true) else y).2 = true then (if c then (n, true) else y).1 else -1 := by split <;> simp_all
theorem tksV_eq (a : ByteArray) : tksV a = if (takenV a).2 = true then (takenV a).1 else -1 := by
  unfold tksV takenV
  repeat (refine tks_ite ?_)
  rfl
theorem sTakes_ev (a : ByteArray) : Ev (fun k => spec_l07Takes.f k a) (tksV a) := by
  have j2 : ∀ b : Bool, (b = true → tksV a = 2) → (b = false → tksV a = if a.toList = ([114, 101, 99, 116] : List UInt8) then 4 else -1) → Ev (fun k => spec_l07Takes.j2 k a b) (tksV a) := fun b h1 h2 => by
    refine Ev.up ?_
    simp only [spec_l07Takes.j2]
    cases b with
    | true => simp only [if_true, h1]; exact Ev.now _
    | false => simp only [Bool.false_eq_true, if_false, h2]; exact Ev.ite (fun z => by rw [if_pos z]; exact Ev.now _) (fun z => by rw [if_neg z]; exact Ev.now _)
  simp only [spec_l07Takes.f]
  by_cases n1 : a.toList = ([110, 101, 119] : List UInt8)
  · simp only [if_pos n1, beq_iff_eq.2 n1, tksV]; exact Ev.up (by simp only [spec_l07Takes.j0, if_true]; exact Ev.now _)
  by_cases n2 : a.toList = ([102, 105, 108, 108] : List UInt8)
  · simp only [if_neg n1, if_pos n2, beq_iff_eq.2 n2, tksV]; exact Ev.up (by simp only [spec_l07Takes.j0, if_true]; exact Ev.now _)
  by_cases n3 : a.toList = ([99, 108, 105, 112] : List UInt8)
  · simp only [if_neg n1, if_neg n2, if_pos n3, beq_iff_eq.2 n3, tksV]; exact Ev.up (by simp only [spec_l07Takes.j0, if_true]; exact Ev.now _)
  by_cases n4 : a.toList = ([115, 97, 118, 101] : List UInt8)
  · simp only [if_neg n1, if_neg n2, if_neg n3, if_pos n4, beq_iff_eq.2 n4, tksV]; exact Ev.up (by simp only [spec_l07Takes.j0, if_true]; exact Ev.now _)
  by_cases n5 : a.toList = ([114, 101, 115, 116, 111, 114, 101] : List UInt8)
  · simp only [if_neg n1, if_neg n2, if_neg n3, if_neg n4, if_pos n5, beq_iff_eq.2 n5, tksV]; exact Ev.up (by simp only [spec_l07Takes.j0, if_true]; exact Ev.now _)
  simp only [if_neg n1, if_neg n2, if_neg n3, if_neg n4, beq_eq_false_iff_ne.2 n5]
  refine Ev.up ?_
  simp only [spec_l07Takes.j0, Bool.false_eq_true, if_false]
  by_cases m1 : a.toList = ([103, 114, 97, 121] : List UInt8)
  · simp only [if_pos m1, beq_iff_eq.2 m1, tksV, if_neg n1, if_neg n2, if_neg n3, if_neg n4, if_neg n5]; exact Ev.up (by simp only [spec_l07Takes.j1, if_true]; exact Ev.now _)
  by_cases m2 : a.toList = ([116, 117, 114, 110] : List UInt8)
  · simp only [if_neg m1, if_pos m2, beq_iff_eq.2 m2, tksV, if_neg n1, if_neg n2, if_neg n3, if_neg n4, if_neg n5]; exact Ev.up (by simp only [spec_l07Takes.j1, if_true]; exact Ev.now _)
  by_cases m3 : a.toList = ([115, 99, 97, 108, 101] : List UInt8)
  · simp only [if_neg m1, if_neg m2, if_pos m3, beq_iff_eq.2 m3, tksV, if_neg n1, if_neg n2, if_neg n3, if_neg n4, if_neg n5]; exact Ev.up (by simp only [spec_l07Takes.j1, if_true]; exact Ev.now _)
  simp only [if_neg m1, if_neg m2, beq_eq_false_iff_ne.2 m3]
  refine Ev.up ?_
  simp only [spec_l07Takes.j1, Bool.false_eq_true, if_false]
  have base : tksV a = if a.toList = ([109, 111, 118, 101, 116, 111] : List UInt8) then 2 else if a.toList = ([108, 105, 110, 101, 116, 111] : List UInt8) then 2 else if a.toList = ([115, 104, 105, 102, 116] : List UInt8) then 2 else if a.toList = ([114, 101, 99, 116] : List UInt8) then 4 else -1 := by
    unfold tksV
    simp only [if_neg n1, if_neg n2, if_neg n3, if_neg n4, if_neg n5, if_neg m1, if_neg m2, if_neg m3]
  by_cases q1 : a.toList = ([109, 111, 118, 101, 116, 111] : List UInt8)
  · simp only [if_pos q1]; exact j2 _ (fun _ => by rw [base, if_pos q1]) (fun h => absurd q1 (beq_eq_false_iff_ne.1 h))
  by_cases q2 : a.toList = ([108, 105, 110, 101, 116, 111] : List UInt8)
  · simp only [if_neg q1, if_pos q2]; exact j2 _ (fun _ => by rw [base, if_neg q1, if_pos q2]) (fun h => absurd q2 (beq_eq_false_iff_ne.1 h))
  simp only [if_neg q1, if_neg q2]
  exact j2 _ (fun h => by rw [base, if_neg q1, if_neg q2, if_pos (beq_iff_eq.1 h)]) (fun h => by rw [base, if_neg q1, if_neg q2, if_neg (beq_eq_false_iff_ne.1 h)])
theorem sStackOp_ev (l : List Int) (a : ByteArray) (hl : l.length ≤ 2000000) : Ev (fun k => spec_StackOp.f k l a) (stackOpV l a) := by
  have hc := stkCnt_bd a
  have main : Ev (fun k => spec_StackOp.j1 k l a (stkCnt a)) (stackOpV l a) := by
    refine Ev.up ?_
    simp only [spec_StackOp.j1, sIsStackOp_eq, Option.bind_some]
    refine Ev.bind (sTake_ev l (stkCnt a) hl hc.1 (by omega)) ?_
    obtain ⟨t1, t2, t3⟩ := takeN_facts (l := l) hc.1
    unfold stackOpV
    generalize takeN l (stkCnt a) = Z at t1 t2 t3 ⊢
    obtain ⟨r, x, ok⟩ := Z
    simp only at t1 t2 t3 ⊢
    have no : ∀ r' x', Ev (fun k => spec_StackOp.j2 k l a r' x' true) (l, false) := fun r' x' => Ev.up (by simp only [spec_StackOp.j2, if_true, sCopy_eq l hl, Option.bind_some]; exact Ev.now _)
    cases ok with
    | false => simp only [Bool.false_eq_true, if_false, false_and]; exact no _ _
    | true =>
      simp only [if_true, true_and]
      cases ho : isOp a with
      | false => simp only [Bool.not_false, Bool.false_eq_true, false_and, if_false]; exact no _ _
      | true =>
        simp only [Bool.not_true, true_and]
        have t4 := t3 rfl
        have fin : ∀ y : List Int, y.length ≤ 3000000 → Ev (fun k => spec_StackOp.j3 k l y) (if stkOk y = true then (y, true) else (l, false)) := fun y hy => Ev.up (by
          simp only [spec_StackOp.j3, sCopy_eq l hl, Option.bind_some]
          refine Ev.bind (sStackOk_ev y (by rw [maxLen_eq]; omega)) ?_
          exact Ev.iteB (fun h => by rw [if_pos h]; exact Ev.now _) (fun h => by rw [h]; simp only [Bool.false_eq_true, if_false]; exact Ev.now _))
        refine Ev.up ?_
        simp only [spec_StackOp.j2, Bool.false_eq_true, if_false, Option.bind_some]
        have hr : r.length < 17592186044416 := by omega
        by_cases o1 : a.toList = ([97, 100, 100] : List UInt8)
        · have c2 : (x.length : Int) = 2 := by rw [t4, stkCnt, if_neg (by rw [o1]; decide), if_neg (by rw [o1]; decide), if_neg (by rw [o1]; decide)]
          simp only [if_pos o1, if_pos (show (0 : Int) < x.length by omega), if_pos (show (1 : Int) < x.length by omega), if_pos hr, stkRes]
          exact fin _ (by simp; omega)
        by_cases o2 : a.toList = ([115, 117, 98] : List UInt8)
        · have c2 : (x.length : Int) = 2 := by rw [t4, stkCnt, if_neg (by rw [o2]; decide), if_neg (by rw [o2]; decide), if_neg (by rw [o2]; decide)]
          simp only [if_neg o1, if_pos o2, if_pos (show (0 : Int) < x.length by omega), if_pos (show (1 : Int) < x.length by omega), if_pos hr, stkRes]
          exact fin _ (by simp; omega)
        by_cases o3 : a.toList = ([109, 117, 108] : List UInt8)
        · have c2 : (x.length : Int) = 2 := by rw [t4, stkCnt, if_neg (by rw [o3]; decide), if_neg (by rw [o3]; decide), if_neg (by rw [o3]; decide)]
          simp only [if_neg o1, if_neg o2, if_pos o3, if_pos (show (0 : Int) < x.length by omega), if_pos (show (1 : Int) < x.length by omega), if_pos hr, stkRes]
          exact fin _ (by simp; omega)
        by_cases o4 : a.toList = ([101, 120, 99, 104] : List UInt8)
        · have c2 : (x.length : Int) = 2 := by rw [t4, stkCnt, if_neg (by rw [o4]; decide), if_neg (by rw [o4]; decide), if_neg (by rw [o4]; decide)]
          simp only [if_neg o1, if_neg o2, if_neg o3, if_pos o4, if_pos (show (0 : Int) < x.length by omega), if_pos (show (1 : Int) < x.length by omega), List.length_cons, List.length_nil, if_pos (show r.length + (0 + 1 + 1) < 17592186044416 by omega), stkRes]
          exact fin _ (by simp; omega)
        by_cases o5 : a.toList = ([110, 101, 103] : List UInt8)
        · have c2 : (x.length : Int) = 1 := by rw [t4, stkCnt, if_pos o5]
          simp only [if_neg o1, if_neg o2, if_neg o3, if_neg o4, if_pos o5, if_pos (show (0 : Int) < x.length by omega), if_pos hr, stkRes]
          exact fin _ (by simp; omega)
        by_cases o6 : a.toList = ([100, 117, 112] : List UInt8)
        · have c2 : (x.length : Int) = 1 := by rw [t4, stkCnt, if_neg o5, if_pos o6]
          simp only [if_neg o1, if_neg o2, if_neg o3, if_neg o4, if_neg o5, if_pos o6, if_pos (show (0 : Int) < x.length by omega), List.length_cons, List.length_nil, if_pos (show r.length + (0 + 1 + 1) < 17592186044416 by omega), stkRes]
          exact fin _ (by simp; omega)
        · simp only [if_neg o1, if_neg o2, if_neg o3, if_neg o4, if_neg o5, if_neg o6, stkRes]
          exact fin _ (by omega)
  have j0 : ∀ b : Bool, (stkCnt a = if b = true then 1 else 2) → Ev (fun k => spec_StackOp.j0 k l a 2 b) (stackOpV l a) := fun b hb => by
    refine Ev.up ?_
    rw [hb] at main
    cases b with
    | true => simp only [spec_StackOp.j0, if_true] at main ⊢; exact main
    | false => simp only [spec_StackOp.j0, Bool.false_eq_true, if_false] at main ⊢; exact main
  simp only [spec_StackOp.f]
  by_cases o1 : a.toList = ([110, 101, 103] : List UInt8)
  · simp only [if_pos o1]; exact j0 _ (by rw [stkCnt, if_pos o1]; rfl)
  by_cases o2 : a.toList = ([100, 117, 112] : List UInt8)
  · simp only [if_neg o1, if_pos o2]; exact j0 _ (by rw [stkCnt, if_neg o1, if_pos o2]; rfl)
  simp only [if_neg o1, if_neg o2]
  by_cases o3 : a.toList = ([112, 111, 112] : List UInt8)
  · exact j0 _ (by rw [stkCnt, if_neg o1, if_neg o2, if_pos o3, beq_iff_eq.2 o3]; rfl)
  · exact j0 _ (by rw [stkCnt, if_neg o1, if_neg o2, if_neg o3, beq_eq_false_iff_ne.2 o3]; rfl)
end Go.Proofs.YtjkgponlahfnjaaGreat.Ex
namespace Go.Proofs.YtjkgponlahfnjaaGreat.Ex
open Go.RowKit Go.Proofs.YtjkgponlahfnjaaGreatW.PrintWords Go.Proofs.YtjkgponlahfnjaaGreatW.PrintLast Go.Proofs.YtjkgponlahfnjaaGreatW.PrintMore
open Go.Proofs.YtjkgponlahfnjaaGreat.QFnExactRunPage Go.Proofs.YtjkgponlahfnjaaGreat.Pure Go.Proofs.YtjkgponlahfnjaaGreat.Plain
def DrawN (nm : ByteArray) : Prop := nm.toList = [110, 101, 119] ∨ nm.toList = [109, 111, 118, 101, 116, 111] ∨ nm.toList = [108, 105, 110, 101, 116, 111] ∨ nm.toList = [114, 101, 99, 116] ∨ nm.toList = [102, 105, 108, 108] ∨ nm.toList = [99, 108, 105, 112]
theorem sdraw_c {nm : ByteArray} {A : Option Addr} {C B a : Nat} {P : Pg} {w : World} {l : List Int} (h : Pre w B a P) (hl : Kd.C (Kd.int .i64) w A l.length l) (hnm : DrawN nm) (hlen : (l.length : Int) = (takenV nm).1) : Calls Tryz.prog 31 #[.pointer (some ⟨a, 0, none⟩), .string nm, .slice A l.length C] w (Pt w B a (paint P nm l)) := by
  rcases hnm with e | e | e | e | e | e
  · simp [takenV, e] at hlen; subst hlen; exact sd_new h e
  · simp [takenV, e] at hlen; obtain ⟨x, y, rfl⟩ := len2 (by omega); obtain ⟨ad, rfl, hd⟩ := ldL_of hl (by simp); exact sd_moveto h hd e
  · simp [takenV, e] at hlen; obtain ⟨x, y, rfl⟩ := len2 (by omega); obtain ⟨ad, rfl, hd⟩ := ldL_of hl (by simp); exact sd_lineto h hd e
  · simp [takenV, e] at hlen; obtain ⟨x, y, u, z, rfl⟩ := len4 (by omega); obtain ⟨ad, rfl, hd⟩ := ldL_of hl (by simp); exact sd_rect h hd e
  · simp [takenV, e] at hlen; subst hlen; exact sd_fill h e
  · simp [takenV, e] at hlen; subst hlen; exact sd_clip h e
theorem schange_c {nm : ByteArray} {A : Option Addr} {C B a : Nat} {P : Pg} {w : World} {l : List Int} (h : Pre w B a P) (hl : Kd.C (Kd.int .i64) w A l.length l) (hd : ¬ DrawN nm) (hnm : (takenV nm).2 = true) (hlen : (l.length : Int) = (takenV nm).1) : Calls Tryz.prog 32 #[.pointer (some ⟨a, 0, none⟩), .string nm, .slice A l.length C] w (Pt w B a (paint P nm l)) := by
  unfold takenV at hnm hlen
  refine ite_c (fun e hlen => ?_) (fun hnm hlen => ?_) hnm hlen
  · exact absurd (.inl e) hd
  refine ite_c (fun e hlen => ?_) (fun hnm hlen => ?_) hnm hlen
  · exact absurd (.inr (.inr (.inr (.inr (.inl e))))) hd
  refine ite_c (fun e hlen => ?_) (fun hnm hlen => ?_) hnm hlen
  · exact absurd (.inr (.inr (.inr (.inr (.inr e))))) hd
  refine ite_c (fun e hlen => ?_) (fun hnm hlen => ?_) hnm hlen
  · obtain rfl := len0 hlen; exact sx_save h e
  refine ite_c (fun e hlen => ?_) (fun hnm hlen => ?_) hnm hlen
  · obtain rfl := len0 hlen; exact sx_restore h e
  refine ite_c (fun e hlen => ?_) (fun hnm hlen => ?_) hnm hlen
  · obtain ⟨x, rfl⟩ := len1 hlen; obtain ⟨ad, rfl, hd⟩ := ldL_of hl (by simp); exact sx_gray h hd e
  refine ite_c (fun e hlen => ?_) (fun hnm hlen => ?_) hnm hlen
  · obtain ⟨x, rfl⟩ := len1 hlen; obtain ⟨ad, rfl, hd⟩ := ldL_of hl (by simp); exact sx_turn h hd (.inr ⟨.inl e, x, rfl⟩)
  refine ite_c (fun e hlen => ?_) (fun hnm hlen => ?_) hnm hlen
  · obtain ⟨x, rfl⟩ := len1 hlen; obtain ⟨ad, rfl, hd⟩ := ldL_of hl (by simp); exact sx_turn h hd (.inr ⟨.inr e, x, rfl⟩)
  refine ite_c (fun e hlen => ?_) (fun hnm hlen => ?_) hnm hlen
  · exact absurd (.inr (.inl e)) hd
  refine ite_c (fun e hlen => ?_) (fun hnm hlen => ?_) hnm hlen
  · exact absurd (.inr (.inr (.inl e))) hd
  refine ite_c (fun e hlen => ?_) (fun hnm hlen => ?_) hnm hlen
  · obtain ⟨x, y, rfl⟩ := len2 hlen; obtain ⟨ad, rfl, hd⟩ := ldL_of hl (by simp); exact sx_turn h hd (.inl ⟨e, x, y, rfl⟩)
  refine ite_c (fun e hlen => ?_) (fun hnm hlen => ?_) hnm hlen
  · exact absurd (.inr (.inr (.inr (.inl e)))) hd
  exact absurd hnm (by decide)
end Go.Proofs.YtjkgponlahfnjaaGreat.Ex
