/- Copies of pages: all rows new, each of its colour. -/
import Derived.Test.YtjkgponlahfnjaaGreatExBd
set_option linter.unusedVariables false
set_option linter.unusedSimpArgs false
set_option maxHeartbeats 8000000
set_option maxRecDepth 100000
namespace Go.Proofs.YtjkgponlahfnjaaGreat.Ex
open Go.RowKit Go.Proofs.YtjkgponlahfnjaaGreatW.PrintWords Go.Proofs.YtjkgponlahfnjaaGreatW.PrintLast Go.Proofs.YtjkgponlahfnjaaGreatW.PrintMore
open Go.Proofs.YtjkgponlahfnjaaGreat.QFnExactRunPage Go.Proofs.YtjkgponlahfnjaaGreat.Pure Go.Proofs.YtjkgponlahfnjaaGreat.Plain
attribute [local go_sem] Tryz.underlying46 Tryz.underlying42 Tryz.underlying38 Tryz.underlying111 Tryz.underlying40 Tryz.underlying103
def RdR {α : Type} (d : Kd α) (w : World) (v : Value) (xs : List α) : Prop := ∃ A C, v = .slice A xs.length C ∧ xs.length ≤ C ∧ d.C w A xs.length xs
structure RdP (w : World) (q : Pg) (s p v o : Value) : Prop where
  s : RdR (Kd.int .i64) w s q.g.f0
  p : RdR k111 w p q.g.f2
  v : RdR k42 w v q.sv
  o : RdR k103 w o q.ob
theorem RdR.below {α : Type} {d : Kd α} {w w1 : World} {v : Value} {xs : List α} (h : RdR d w v xs) (hb : Below w.heap.size w w1) : RdR d w1 v xs := by
  obtain ⟨A, C, h1, h2, h3⟩ := h
  exact ⟨A, C, h1, h2, Kd.C_below h3 hb⟩
theorem RdP.below {w w1 : World} {q : Pg} {s p v o : Value} (h : RdP w q s p v o) (hb : Below w.heap.size w w1) : RdP w1 q s p v o := ⟨h.s.below hb, h.p.below hb, h.v.below hb, h.o.below hb⟩
def cels (q : Pg) (s p v o : Value) : Array Value := #[s, .int .i64 q.g.f1.f0, .int .i64 q.g.f1.f1, .int .i64 q.g.f1.f2, .int .i64 q.g.f1.f3, p, .int .i64 q.g.f3, .int .i64 q.g.f4.f0, .int .i64 q.g.f4.f1, .int .i64 q.g.f4.f2, .int .i64 q.g.f4.f3, v, o]
def NewP (w : World) (q : Pg) (x : Value) (w' : World) : Prop := Below w.heap.size w w' ∧ ∃ c s p v o, x = .agg (cels q s p v o) ∧ Rw w' w.heap.size c s p v o q.g.f0 q.g.f2 q.sv q.ob
theorem NewP.mk {w w1 w' : World} {q : Pg} {c : Nat → Nat} {s p v o : Value} {g : Nat} {cs : Array Value} (hb : Below w.heap.size w w1) (hR : Rw w1 w.heap.size c s p v o q.g.f0 q.g.f2 q.sv q.ob) (d0 : Aside0 (w1.heap[g]? = some (.cells cs 46 (0, 0)))) (hg : w.heap.size ≤ g) (G : Fr [g] w.heap.size w1 w' := by repeat (first | (with_reducible exact Fr.refl _ _ _) | (with_reducible refine Fr.set ?_ _ _ (by simp) (by assumption)))) : NewP w q (.agg (cels q s p v o)) w' := ⟨hb.trans G.bl, c, s, p, v, o, rfl, hR.on (Alien.one d0) G.on⟩
theorem C42 {w : World} {ad : Addr} {n j : Nat} {xs : List S42} (h : Kd.C k42 w (some ad) n xs) (hj : j < n) : ∃ A0 C0 A5 C5, (∀ y ∈ l11 (ad.add (j * 11)) (rd_T42 xs (j : Int)) (.slice A0 (rd_T42 xs (j : Int)).f0.length C0) (.slice A5 (rd_T42 xs (j : Int)).f2.length C5), w.cell? y.1 = some y.2) ∧ (rd_T42 xs (j : Int)).f0.length ≤ C0 ∧ Kd.C (Kd.int .i64) w A0 (rd_T42 xs (j : Int)).f0.length (rd_T42 xs (j : Int)).f0 ∧ (rd_T42 xs (j : Int)).f2.length ≤ C5 ∧ Kd.C k111 w A5 (rd_T42 xs (j : Int)).f2.length (rd_T42 xs (j : Int)).f2 := by
  obtain ⟨ad', c, e, _, hK, hc⟩ := Kd.C_get h z42 (j : Int) (by omega) (by omega)
  obtain rfl := Option.some.inj e
  obtain ⟨A0, C0, A5, C5, rfl, h1, h2, h3, h4⟩ := k42_open hK
  exact ⟨A0, C0, A5, C5, l11_of hc, h1, h2, h3, h4⟩
theorem icopy_c {w : World} {q : Pg} {s p v o : Value} (h : RdP w q s p v o) (hn : pgN 1048576 q) : Calls Tryz.prog 38 #[.agg (cels q s p v o)] w (fun e w' => ∃ x, e = .returned x ∧ NewP w q x w') := by
  obtain ⟨⟨st, ⟨t0, t1, t2, t3⟩, pa, gr, ⟨x0, y0, x1, y1⟩⟩, sv, ob⟩ := q
  obtain ⟨⟨sA, sC, rfl, hs, Hs⟩, ⟨pA, pC, rfl, hp, Hp⟩, ⟨vA, vC, rfl, hv, Hv⟩, ⟨oA, oC, rfl, ho, Ho⟩⟩ := h
  obtain ⟨n1, n2, n3, n4, n5, n6⟩ := hn
  dsimp only at hs hp hv ho Hs Hp Hv Ho n1 n2 n3 n4 n5 n6
  simp only [cels]
  have HB := aM (Below.refl w.heap.size w)
  obtain ⟨ko, hko⟩ := icopyOs_ev ob (by omega) (fun x hx => by have := n6 x hx; omega)
  replace hko := hko ko (Nat.le_refl _)
  go_enter Tryz.func38, Tryz.ntmps38
  try go_wp2_with (first | ((with_reducible refine gD 1 ?_); refine bxE #[.slice sA st.length sC, .int .i64 t0, .int .i64 t1, .int .i64 t2, .int .i64 t3, .slice pA pa.length pC, .int .i64 gr, .int .i64 x0, .int .i64 y0, .int .i64 x1, .int .i64 y1, .slice vA sv.length vC, .slice oA ob.length oC] 46 ?_; intro a5 hg w4 a2 hb; replace HB := hB hb; clear hb hg) | ((with_reducible refine gD 2 ?_); refine bxE #[.slice none 0 0, .int .i64 0, .int .i64 0, .int .i64 0, .int .i64 0, .slice none 0 0, .int .i64 0, .int .i64 0, .int .i64 0, .int .i64 0, .int .i64 0, .slice none 0 0, .slice none 0 0] 46 ?_; intro b8 hg w5 d0 hb; have h4 := nL_ a5 hg; have h5 := nG_ a5 hg; have h8 := gE hg; replace a2 := kB_ a5 hb; replace HB := hB hb; clear hb hg))
  refine sta (w0 := w) (lk := []) (B := w.heap.size) 9 [8] [] a2 (by simp) ⟨Fr.of (Nat.le_refl _) HB.out⟩ (fun w6 hb0 F hHeld => ?_)
  refine pV 0 ?_
  refine pV 3 ?_
  refine tV 1 ?_
  refine tV 4 ?_
  refine join_ (σ := (Option Addr × Nat) × (Option Addr × Nat) × (Option Addr × Nat) × Nat) 1 (mB 9 255) (fun s_ => [(8, .agg #[.slice s_.1.1 st.length s_.1.2, .int .i64 t0, .int .i64 t1, .int .i64 t2, .int .i64 t3, .slice s_.2.1.1 pa.length s_.2.1.2, .int .i64 gr, .int .i64 x0, .int .i64 y0, .int .i64 x1, .int .i64 y1]), (11, .slice s_.2.2.1.1 ob.length s_.2.2.1.2), (3, .pointer (some ⟨s_.2.2.2, 0, none⟩)), (12, .agg #[.slice s_.1.1 st.length s_.1.2, .int .i64 t0, .int .i64 t1, .int .i64 t2, .int .i64 t3, .slice s_.2.1.1 pa.length s_.2.1.2, .int .i64 gr, .int .i64 x0, .int .i64 y0, .int .i64 x1, .int .i64 y1, .slice none 0 0, .slice s_.2.2.1.1 ob.length s_.2.2.1.2])]) (fun s_ w' => Below w6.heap.size w6 w' ∧ w6.heap.size ≤ s_.2.2.2 ∧ w'.heap[s_.2.2.2]? = some (.cells #[.slice none 0 0, .int .i64 0, .int .i64 0, .int .i64 0, .int .i64 0, .slice none 0 0, .int .i64 0, .int .i64 0, .int .i64 0, .int .i64 0, .int .i64 0, .slice none 0 0, .slice none 0 0] 46 (0, 0)) ∧ ∃ c, Rw w' w6.heap.size c (.slice s_.1.1 st.length s_.1.2) (.slice s_.2.1.1 pa.length s_.2.1.2) (.slice none 0 0) (.slice s_.2.2.1.1 ob.length s_.2.2.1.2) st pa [] ob) ?_ ?_
  · rintro ⟨⟨sB, sD⟩, ⟨pB, pD⟩, ⟨oB, oD⟩, b9⟩ w7 ⟨hb7, hg7, a9, c, hR⟩
    have d7 := aM (blk_below (blk_below d0.out hb0) hb7)
    have HB7 := below_step (below_step HB.out hb0) hb7
    have h89 : b8 < b9 := Nat.lt_of_lt_of_le (blk_lt (blk_below d0.out hb0)) hg7
    have e9 : w.heap.size ≤ b9 := Nat.le_trans h8.out (Nat.le_of_lt h89)
    have f1 := aM (Nat.ne_of_lt h89)
    have f2 := aM (Nat.ne_of_gt h89)
    have h59 : a5 < b9 := Nat.lt_of_lt_of_le (blk_lt hHeld.1) hg7
    have f3 := Nat.ne_of_lt h59
    have f4 := Nat.ne_of_gt h59
    have a5c := (blk_cell (hHeld.below hb7).1 11).trans rfl
    have a2 := aM a9
    refine norm_ (a' := ?_) ?_ ?_
    rotate_left
    · simp only [putAll, Act.put, List.setIfInBounds_toArray, List.set_cons_zero, List.set_cons_succ]
      rfl
    refine sV 8 ?_
    refine done_ (by kernel_rfl) ?_
    have hz := cz13 a2
    try go_wp2
    clear hz hHeld F
    go_loopg [16] sv.length (fun kq vv w' => ∃ (j : Nat) (c : Nat → Nat) (pv : Value), vv = .int .i64 (j : Int) ∧ Aside0 (kq + j = sv.length) ∧ Aside0 (Below w.heap.size w w') ∧ Aside0 (Rw w' w.heap.size c (.slice sB st.length sD) (.slice pB pa.length pD) pv (.slice oB ob.length oD) st pa (sv.take j) ob) ∧ Aside0 (w'.heap[b8]? = some (.cells #[.slice none 0 0, .int .i64 0, .int .i64 0, .int .i64 0, .int .i64 0, .slice none 0 0, .int .i64 0, .int .i64 0, .int .i64 0, .int .i64 0, .int .i64 0, .slice none 0 0, .slice none 0 0] 46 (0, 0))) ∧ Aside0 (w'.heap[b9]? = some (.cells #[.slice sB st.length sD, .int .i64 t0, .int .i64 t1, .int .i64 t2, .int .i64 t3, .slice pB pa.length pD, .int .i64 gr, .int .i64 x0, .int .i64 y0, .int .i64 x1, .int .i64 y1, pv, .slice oB ob.length oD] 46 (0, 0))))
    case atStart =>
      refine ⟨0, c, .slice none 0 0, rfl, ⟨by omega⟩, ⟨?_⟩, ⟨?_⟩, ⟨kS⟩, ⟨kR a2⟩⟩
      · repeat (first | (with_reducible exact HB7) | (with_reducible refine Below.setCell ?_ e9 _))
      · refine (hR.on (Alien.one a2) (?_ : OnL [b9] w7 _)).lower (Nat.le_trans HB.out.size hb0.size)
        repeat (first | (with_reducible exact OnL_refl _ _) | (with_reducible refine OnL_set ?_ _ _ (by simp)))
    case round =>
      obtain ⟨j, c, pv, rfl, hj, HB, hR, d0, a2⟩ := hrel
      by_cases hj4 : j < sv.length
      · obtain ⟨ad, rfl⟩ : ∃ ad, vA = some ad := by
          obtain ⟨ad, _, e, _⟩ := Kd.C_get Hv z42 (j : Int) (by omega) (by omega)
          exact ⟨ad, e⟩
        obtain ⟨A0, C0, A5, C5, hcs, c0, H0, c5, H5⟩ := C42 Hv hj4
        have hxs := n4 _ (show rd_T42 sv (j : Int) ∈ sv by simp only [rd_T42, Int.toNat_natCast, List.getD_eq_getElem?_getD, List.getElem?_eq_getElem hj4, Option.getD_some]; exact List.getElem_mem hj4)
        have hMj : sv.take (j + 1) = sv.take j ++ [rd_T42 sv (j : Int)] := by
          rw [List.take_succ_eq_append_getElem hj4]
          simp [rd_T42, List.getD_eq_getElem?_getD, hj4]
        replace hMj := aM hMj
        replace hcs := fun y hy => (HB.out.cell (World.block_lt_of_cell? _ _ (hcs y hy))).trans (hcs y hy)
        generalize rd_T42 sv (j : Int) = x at hcs c0 H0 c5 H5 hxs hMj
        have hi2 : IntKind.i64.wrap ((j : Int) + 1) = (j : Int) + 1 := by rw [i64_w]; exact wrap_id (by omega) (by omega)
        obtain ⟨g0, ⟨u0, u1, u2, u3⟩, g5, g6, ⟨g7, g8, g9, h1⟩⟩ := x
        simp only [l11, List.forall_mem_cons, List.not_mem_nil, false_implies, implies_true, and_true] at hcs
        dsimp only at c0 H0 c5 H5 hxs
        have hBr := HB.out.size
        try go_wp2_with (first | ((with_reducible refine gD 5 ?_); refine bxE #[.slice none 0 0, .int .i64 0, .int .i64 0, .int .i64 0, .int .i64 0, .slice none 0 0, .int .i64 0, .int .i64 0, .int .i64 0, .int .i64 0, .int .i64 0] 42 ?_; intro h7 hg w5 b2 hb; have e3 := nL_ b9 hg; have e4 := nG_ b9 hg; have e6 := nL_ b8 hg; have e7 := nG_ b8 hg; have e5 : wr.heap.size ≤ h7 := Nat.le_of_eq hg.symm; replace d0 := kB_ b8 hb; replace a2 := kB_ b9 hb; replace hR := aM ((hR.out.dye 9).below hb); replace HB := aM (below_then HB.out hBr hb); clear hb hg; have hz := nP e3 e4; have hz1 := nP e6 e7; have hz2 := cz11 b2))
        have e8 : 6 ≤ tint c wr.heap.size 9 h7 := by rw [tint_new e5]; decide
        generalize tint c wr.heap.size 9 = c9 at hR e8
        have hB7 : w.heap.size ≤ h7 := Nat.le_trans hBr e5
        clear hz hz1 hz2
        refine sta (a := b9) (w0 := w5) (lk := [h7, b9]) (B := w.heap.size) 8 [5, 7] (l11 ⟨h7, 0, none⟩ ⟨g0, ⟨u0, u1, u2, u3⟩, g5, g6, ⟨g7, g8, g9, h1⟩⟩ (.slice A0 g0.length C0) (.slice A5 g5.length C5)) ⟨(kS : _ = some (Obj.cells #[.slice sB st.length sD, .int .i64 t0, .int .i64 t1, .int .i64 t2, .int .i64 t3, .slice pB pa.length pD, .int .i64 gr, .int .i64 x0, .int .i64 y0, .int .i64 x1, .int .i64 y1, pv, .slice oB ob.length oD] 46 (0, 0)))⟩ (l11_blk (kR b2)) ⟨?_⟩ (fun w6 hb6 F hHeld => ?_)
        · repeat (first | (with_reducible exact Fr.refl _ _ _) | (with_reducible refine Fr.set ?_ _ _ (by simp) hB7))
        refine pV 0 ?_
        refine tV 1 ?_
        refine tV 2 ?_
        have hW6 := F.out.on.1
        have hBel : Below w.heap.size w w6 := HB.out.trans F.out.bl
        refine oV 3 (fun K hK => ?_)
        refine cV Tryz.func85 (impl_copyGraphics.calls A0 C0 g0 u0 u1 u2 u3 A5 C5 g5 g6 g7 g8 g9 h1 _ _ _ _ _ _ _ _ _ _ _ w6 (Kd.C_below H0 hBel) c0 (Kd.C_below H5 hBel) c5 (icopyG_eq g0 u0 u1 u2 u3 g5 g6 g7 g8 g9 h1 (by omega) (by omega))) ?_
        rintro e w7 ⟨r, r5, rfl, hr, hr5, hb⟩
        obtain ⟨rA, rC, rfl⟩ := Kd.R_slice hr
        obtain ⟨qA, qC, rfl⟩ := Kd.R_slice hr5
        refine ⟨_, rfl, ?_⟩
        have hal : Alien c9 w5 [h7, b9] := .dyed e8 (.one a2)
        have hd := ((hR.out.on hal F.out.on).dye 4).below hb
        have h4 := Kd.R_lower (Kd.R_mono (Kd.R_bound hr) (fun k hk => tint_new (c := c9) (i := 4) hk.2.1)) hBel.size
        have h5 := Kd.R_lower (Kd.R_mono (Kd.R_bound hr5) (fun k hk => tint_new (c := c9) (i := 4) hk.2.1)) hBel.size
        have d6 := kB_ b8 (below_step (Below.refl _ _) hb) (blk_below (kS : _ = some (Obj.cells #[.slice none 0 0, .int .i64 0, .int .i64 0, .int .i64 0, .int .i64 0, .slice none 0 0, .int .i64 0, .int .i64 0, .int .i64 0, .int .i64 0, .int .i64 0, .slice none 0 0, .slice none 0 0] 46 (0, 0))) hb6)
        refine hx hK (hHeld.below hb) (fun hHeld => ?_)
        clear hK K
        refine oV 4 (fun K hK => ?_)
        refine aV hK (hHeld.alloc _) (fun hHeld2 => ?_)
        clear hK K hHeld2
        refine lV 5 (fun K hK => ?_)
        refine Rw.appV (x := ⟨g0, ⟨u0, u1, u2, u3⟩, g5, g6, ⟨g7, g8, g9, h1⟩⟩) hd h4 h5 (.tmp 21) (.tmp 24) (below_then hBel hBel.size hb) (Nat.le_trans hBel.size hb.size) (by rfl) rfl Tryz.underlying43 info42 rfl rfl (by rw [List.length_take]; omega) (fun xB xN xD w8 hR3 hb8 ht => ?_)
        obtain ⟨c', hR8⟩ := hR3
        rw [← hMj.out] at hR8
        replace a2 := aM (ht _ _ _ hHeld.1 (by decide))
        replace d0 := aM (ht _ _ _ d6.out (by decide))
        refine hy hK ?_
        clear hK K
        refine pV 6 ?_
        refine sV 7 ?_
        refine done_ (by kernel_rfl) ?_
        try go_wp2
        go_roundg (sv.length - (j + 1))
        case measure => have := hj.out; omega
        case rel => exact ⟨j + 1, c', .slice xB xN xD, by simp, ⟨by omega⟩, ⟨hb8.setCell e9 _⟩, ⟨hR8.on (Alien.one a2) (OnL_set (OnL_refl _ _) _ _ (by simp))⟩, ⟨kS⟩, ⟨kR a2⟩⟩
      · have hj5 : j = sv.length := by have := hj.out; omega
        subst hj5
        rw [List.take_length] at hR
        obtain ⟨xA, xC, rfl⟩ := Kd.S_slice hR.out.hv
        have hz := cz13 a2
        have hz2 := cz13 d0
        have hz3 := nP f1 f2
        go_wp2
        refine bodyPost_ret (results_cell_row rfl _ _ b8 46 (#[.slice sB st.length sD, .int .i64 t0, .int .i64 t1, .int .i64 t2, .int .i64 t3, .slice pB pa.length pD, .int .i64 gr, .int .i64 x0, .int .i64 y0, .int .i64 x1, .int .i64 y1, .slice xA sv.length xC, .slice oB ob.length oD]) (0, 0) _ rfl kS Tryz.underlying46 rfl (by kernel_rfl)) rfl ?_
        have hg8 := h8.out
        exact ⟨_, rfl, NewP.mk (q := ⟨⟨st, ⟨t0, t1, t2, t3⟩, pa, gr, ⟨x0, y0, x1, y1⟩⟩, sv, ob⟩) HB.out hR.out d0 h8.out⟩
  · intro hCont
    have Cs := Kd.C_below (Kd.C_below Hs HB.out) hb0
    have Cp := Kd.C_below (Kd.C_below Hp HB.out) hb0
    have Co := Kd.C_below (Kd.C_below Ho HB.out) hb0
    have CG := fun (w' : World) (hb : Below w6.heap.size w6 w') => impl_copyGraphics.calls sA sC st t0 t1 t2 t3 pA pC pa gr x0 y0 x1 y1 _ _ _ _ _ _ _ _ _ _ _ w' (Kd.C_below Cs hb) hs (Kd.C_below Cp hb) hp (icopyG_eq st t0 t1 t2 t3 pa gr x0 y0 x1 y1 (by omega) (by omega))
    have CO := fun (w' : World) (hb : Below w6.heap.size w6 w') => impl_copyObjects.calls ko oA oC ob ob w' (Kd.C_below Co hb) ho hko
    refine twV 2 7 (fun K hK => ?_) (fun K hK => ?_)
    · refine cV Tryz.func85 (CG _ (Below.refl _ _)) ?_
      rintro e w7 ⟨r, r5, rfl, hr, hr5, hb⟩
      obtain ⟨rA, rC, rfl⟩ := Kd.R_slice hr
      obtain ⟨qA, qC, rfl⟩ := Kd.R_slice hr5
      refine ⟨_, rfl, ?_⟩
      refine hx hK (hHeld.below hb) (fun hHeld => ?_)
      clear hK K
      refine twV 5 7 (fun K hK => ?_) (fun K hK => ?_)
      · refine cV Tryz.func86 (CO _ hb) ?_
        rintro e w8 ⟨r6, rfl, hr6, hb8⟩
        obtain ⟨tA, tC, rfl⟩ := Kd.S_slice hr6
        refine ⟨_, rfl, ?_⟩
        refine hx hK (hHeld.below hb8) (fun hHeld => ?_)
        clear hK K
        refine pV 6 ?_
        refine oV 7 (fun K hK => ?_)
        refine bV #[.slice none 0 0, .int .i64 0, .int .i64 0, .int .i64 0, .int .i64 0, .slice none 0 0, .int .i64 0, .int .i64 0, .int .i64 0, .int .i64 0, .int .i64 0, .slice none 0 0, .slice none 0 0] 46 (fun g hg w9 b3 hb9 => ?_)
        refine hx hK (hHeld.below hb9) (fun hHeld => ?_)
        exact nV (norm_ (by simp only [putAll, Act.put, List.setIfInBounds_toArray, List.set_cons_zero, List.set_cons_succ]) (hCont ((rA, rC), (qA, qC), (tA, tC), g) _ ⟨below_step (below_step hb hb8) hb9, by rw [hg]; exact Nat.le_trans hb.size hb8.size, b3, (Rw.fresh hr hr5 hb hr6 hb8).imp (fun _ h => h.below hb9)⟩))
      · refine bV #[.slice none 0 0, .int .i64 0, .int .i64 0, .int .i64 0, .int .i64 0, .slice none 0 0, .int .i64 0, .int .i64 0, .int .i64 0, .int .i64 0, .int .i64 0, .slice none 0 0, .slice none 0 0] 46 (fun g hg w8 b3 hb8 => ?_)
        refine hx hK (hHeld.below hb8) (fun hHeld => ?_)
        clear hK K
        refine oV 5 (fun K hK => ?_)
        refine cV Tryz.func86 (CO _ (below_step hb hb8)) ?_
        rintro e w9 ⟨r6, rfl, hr6, hb9⟩
        obtain ⟨tA, tC, rfl⟩ := Kd.S_slice hr6
        refine ⟨_, rfl, ?_⟩
        refine hx hK (hHeld.below hb9) (fun hHeld => ?_)
        clear hK K
        refine pV 6 ?_
        exact nV (norm_ (by simp only [putAll, Act.put, List.setIfInBounds_toArray, List.set_cons_zero, List.set_cons_succ]) (hCont ((rA, rC), (qA, qC), (tA, tC), g) _ ⟨below_step (below_step hb hb8) hb9, by rw [hg]; exact hb.size, blk_below b3 hb9, Rw.fresh (Kd.R_below hr hb8) (Kd.R_below hr5 hb8) (below_step hb hb8) hr6 hb9⟩))
    · refine bV #[.slice none 0 0, .int .i64 0, .int .i64 0, .int .i64 0, .int .i64 0, .slice none 0 0, .int .i64 0, .int .i64 0, .int .i64 0, .int .i64 0, .int .i64 0, .slice none 0 0, .slice none 0 0] 46 (fun g hg w7 b3 hb7 => ?_)
      refine hx hK (hHeld.below hb7) (fun hHeld => ?_)
      clear hK K
      refine oV 2 (fun K hK => ?_)
      refine cV Tryz.func85 (CG _ hb7) ?_
      rintro e w8 ⟨r, r5, rfl, hr, hr5, hb⟩
      obtain ⟨rA, rC, rfl⟩ := Kd.R_slice hr
      obtain ⟨qA, qC, rfl⟩ := Kd.R_slice hr5
      refine ⟨_, rfl, ?_⟩
      refine hx hK (hHeld.below hb) (fun hHeld => ?_)
      clear hK K
      refine oV 5 (fun K hK => ?_)
      refine cV Tryz.func86 (CO _ (below_step hb7 hb)) ?_
      rintro e w9 ⟨r6, rfl, hr6, hb9⟩
      obtain ⟨tA, tC, rfl⟩ := Kd.S_slice hr6
      refine ⟨_, rfl, ?_⟩
      refine hx hK (hHeld.below hb9) (fun hHeld => ?_)
      clear hK K
      refine pV 6 ?_
      exact nV (norm_ (by simp only [putAll, Act.put, List.setIfInBounds_toArray, List.set_cons_zero, List.set_cons_succ]) (hCont ((rA, rC), (qA, qC), (tA, tC), g) _ ⟨below_step (below_step hb7 hb) hb9, Nat.le_of_eq hg.symm, blk_below (blk_below b3 hb) hb9, Rw.fresh (Kd.R_lower hr hb7.size) (Kd.R_lower hr5 hb7.size) (below_step hb7 hb) hr6 hb9⟩))
end Go.Proofs.YtjkgponlahfnjaaGreat.Ex
namespace Go.Proofs.YtjkgponlahfnjaaGreat.Ex
open Go.RowKit Go.Proofs.YtjkgponlahfnjaaGreatW.PrintWords Go.Proofs.YtjkgponlahfnjaaGreatW.PrintLast Go.Proofs.YtjkgponlahfnjaaGreatW.PrintMore
open Go.Proofs.YtjkgponlahfnjaaGreat.QFnExactRunPage Go.Proofs.YtjkgponlahfnjaaGreat.Pure Go.Proofs.YtjkgponlahfnjaaGreat.Plain
attribute [local go_sem] Tryz.underlying46 Tryz.underlying42 Tryz.underlying38 Tryz.underlying111 Tryz.underlying40 Tryz.underlying103
theorem own_ne {α β : Type} {d : Kd α} {d' : Kd β} {e e' b b' : Nat} {ok ok' : Nat → Prop} {v v' : Value} {xs : List α} {ys : List β} {w : World} (h : Kd.R d e w b ok v xs) (h' : Kd.R d' e' w b' ok' v' ys) (hn : e ≠ e') : ∀ k, some k = v.ownBlock → ¬ some k = v'.ownBlock := fun k h1 h2 => by
  obtain ⟨_, e1⟩ := Kd.R_typed h k h1.symm
  obtain ⟨_, e2⟩ := Kd.R_typed h' k h2.symm
  rw [e1] at e2
  injection e2 with e2
  injection e2 with _ e2
  exact hn e2
structure EG (w0 w : World) (P0 : Nat → Prop) (W : World) (g n cap : Nat) (xs : List S42) (i : Int) (oki : Nat → Prop) (v0 : Value) (s0 : List Int) (v5 : Value) (s5 : List S111) (c : List Value) : Prop where
  hh : Kd.H k42 42 W w0.heap.size (fun k => P0 k ∨ w.heap.size ≤ k) (.slice (some ⟨g, 0, none⟩) n cap) xs i oki c
  r0 : Kd.R (Kd.int .i64) 3 W w0.heap.size oki v0 s0
  r5 : Kd.R k111 111 W w0.heap.size oki v5 s5
  hf : ∀ k, oki k → k ≠ g
  hi : ∀ k, oki k → P0 k ∨ w.heap.size ≤ k
  hk : Kept w W P0
  hb : Below w0.heap.size w0 W
  hg : P0 g ∨ w.heap.size ≤ g
  gb : w0.heap.size ≤ g
  h0 : 0 ≤ i
  h1 : i < n
section
variable {w0 w W W2 : World} {P0 oki : Nat → Prop} {g n cap : Nat} {xs : List S42} {i : Int} {v0 v5 : Value} {s0 s0' : List Int} {s5 s5' : List S111} {c : List Value}
theorem EG.cel (h : EG w0 w P0 W g n cap xs i oki v0 s0 v5 s5 c) (j : Nat) (u : Value) (hj : c[j]? = some u) : W.cell? ⟨g, i.toNat * 11 + j, none⟩ = some u ∧ W.frozen? ⟨g, i.toNat * 11 + j, none⟩ = false := ⟨(H_cells h.hh h.h0 h.h1).1 j u hj, (H_cells h.hh h.h0 h.h1).2 j⟩
theorem EG.put (h : EG w0 w P0 W g n cap xs i oki v0 s0 v5 s5 c) (j : Nat) (x : Value) (hj : j < 11) (hc : c.length = 11) (hx : x.oneCell' = true) : EG w0 w P0 (W.setCell ⟨g, i.toNat * 11 + j, none⟩ x) g n cap xs i oki v0 s0 v5 s5 (c.set j x) :=
  ⟨(H_put h.hh h.h0 h.h1 j hj hc x hx).1, Kd.R_far h.r0 h.hf _, Kd.R_far h.r5 h.hf _, h.hf, h.hi, Kept.setCell h.hk h.hg _, h.hb.setCell h.gb _, h.hg, h.gb, h.h0, h.h1⟩
theorem EG.next (h : EG w0 w P0 W g n cap xs i oki v0 s0 v5 s5 c) {S : Nat → Prop} (hkp : Kept W W2 S) (hS : ∀ k, S k → oki k) (hb : Below w0.heap.size w0 W2) (h0 : Kd.R (Kd.int .i64) 3 W2 w0.heap.size (fun k => oki k ∨ W.heap.size ≤ k) v0 s0') (h5 : Kd.R k111 111 W2 w0.heap.size (fun k => oki k ∨ W.heap.size ≤ k) v5 s5') : EG w0 w P0 W2 g n cap xs i (fun k => oki k ∨ W.heap.size ≤ k) v0 s0' v5 s5' c :=
  ⟨H_lent h.hh (hkp.mono hS) (fun k hk => .inr (Nat.le_trans h.hk.1 hk)), h0, h5, fun k hk => hk.elim (h.hf k) (fun h2 e => by have := H_lt h.hh h.h0 h.h1; omega), fun k hk => hk.elim (h.hi k) (fun h2 => .inr (Nat.le_trans h.hk.1 h2)), Kept.then_ h.hk hkp (fun k hk => h.hi k (hS k hk)), hb, h.hg, h.gb, h.h0, h.h1⟩
theorem EG.m0 (h : EG w0 w P0 W g n cap xs i oki v0 s0 v5 s5 c) (hi : Kd.R (Kd.int .i64) 3 W2 w0.heap.size (fun k => some k = v0.ownBlock ∨ W.heap.size ≤ k) v0 s0') (hb : Below w0.heap.size w0 W2) (hkp : Kept W W2 (fun k => some k = v0.ownBlock)) : EG w0 w P0 W2 g n cap xs i (fun k => oki k ∨ W.heap.size ≤ k) v0 s0' v5 s5 c :=
  h.next hkp (fun k hk => h.r0.1 k hk.symm) hb (Kd.R_mono hi (fun k hk => hk.imp (fun e => h.r0.1 k e.symm) id)) (Kd.R_mono (Kd.R_kept (Kd.R_tight rfl h.r5) hkp (own_ne h.r5 h.r0 (by decide))) (fun k hk => .inl (h.r5.1 k hk.symm)))
theorem EG.m5 (h : EG w0 w P0 W g n cap xs i oki v0 s0 v5 s5 c) (hi : Kd.R k111 111 W2 w0.heap.size (fun k => some k = v5.ownBlock ∨ W.heap.size ≤ k) v5 s5') (hb : Below w0.heap.size w0 W2) (hkp : Kept W W2 (fun k => some k = v5.ownBlock)) : EG w0 w P0 W2 g n cap xs i (fun k => oki k ∨ W.heap.size ≤ k) v0 s0 v5 s5' c :=
  h.next hkp (fun k hk => h.r5.1 k hk.symm) hb (Kd.R_mono (Kd.R_kept (Kd.R_tight rfl h.r0) hkp (own_ne h.r0 h.r5 (by decide))) (fun k hk => .inl (h.r0.1 k hk.symm))) (Kd.R_mono hi (fun k hk => hk.imp (fun e => h.r5.1 k e.symm) id))
end
def markGS.l0 : Nat → List S42 → Int → Int → Option (Int × List S42)
  | 0, _, _, _ => none
  | k + 1, x0, x1, x5 => if x5 < (x0.length : Int) then (if 0 ≤ x5 then ((laws_markIntS.f k (x0.getD x5.toNat z42).f0 x1).bind fun bt => (laws_markPointS.f k (x0.getD x5.toNat z42).f2 (wrap64 ((wrap64 ((wrap64 ((wrap64 (bt.1 + 1)) + 1)) + 1)) + 1))).bind fun bu => (markGS.l0 k (x0.set (x5 : Int).toNat (⟨bt.2, ⟨bt.1, wrap64 (bt.1 + 1), wrap64 ((wrap64 (bt.1 + 1)) + 1), wrap64 ((wrap64 ((wrap64 (bt.1 + 1)) + 1)) + 1)⟩, bu.2, bu.1, ⟨wrap64 (bu.1 + 1), wrap64 ((wrap64 (bu.1 + 1)) + 1), wrap64 ((wrap64 ((wrap64 (bu.1 + 1)) + 1)) + 1), wrap64 ((wrap64 ((wrap64 ((wrap64 (bu.1 + 1)) + 1)) + 1)) + 1)⟩⟩ : S42)) (wrap64 ((wrap64 ((wrap64 ((wrap64 ((wrap64 (bu.1 + 1)) + 1)) + 1)) + 1)) + 1)) (wrap64 (x5 + 1)))) else (none)) else (some (x1, x0))
def markGS.f (k : Nat) (l0 : List S42) (a1 : Int) : Option (Int × List S42) := markGS.l0 k l0 a1 0
theorem markGS_c (k : Nat) (P0_ : Nat → Prop) (u : Value) (l0 : List S42) (a1 : Int) (r1 : Int) (r2 : List S42) (w0 w : World) (hB : Below w0.heap.size w0 w) (hS : Kd.S k42 42 w w0.heap.size P0_ u l0) (h : markGS.f k l0 a1 = some (r1, r2)) :
  Calls Tryz.prog 49 #[u, .int .i64 a1] w fun e w' => e = .returned (.int .i64 r1) ∧ Kd.S k42 42 w' w0.heap.size (fun k_ => (P0_ k_ ∨ w.heap.size ≤ k_)) u r2 ∧ Below w0.heap.size w0 w' ∧ Kept w w' (fun k_ => P0_ k_) := by
  have HS := aM (show Kd.S k42 42 w w0.heap.size (fun k_ => (P0_ k_ ∨ w.heap.size ≤ k_)) u l0 from Kd.S_mono hS (fun k_ hk => (.inl hk)))
  have HK := aM (Kept.refl w (fun k_ => P0_ k_))
  have HB := aM hB
  clear hB hS
  have H' := aM (show markGS.l0 k l0 a1 0 = some (r1, r2) from h)
  clear h
  go_enter Tryz.func49, Tryz.ntmps49
  go_wp2
  go_loopg [1, 5] k (fun kq v1 v5 w' => ∃ (x0 : List S42) (a1 : Int) (a2 : Int), v1 = .int .i64 a1 ∧ v5 = .int .i64 a2 ∧ Aside0 (markGS.l0 kq x0 a1 a2 = some (r1, r2)) ∧ Aside0 (kq ≤ k) ∧ Aside0 (Kd.S k42 42 w' w0.heap.size (fun k_ => (P0_ k_ ∨ w.heap.size ≤ k_)) u x0) ∧ Aside0 (Kept w w' (fun k_ => P0_ k_)) ∧ Aside0 (Below w0.heap.size w0 w'))
  case atStart => exact ⟨l0, a1, 0, rfl, rfl, H', ⟨Nat.le_refl _⟩, HS, HK, HB⟩
  case round =>
    clear H' HS
    obtain ⟨x0, a1, a2, rfl, rfl, HA, b1, HS, HK, HB⟩ := hrel
    cases gk with
    | zero => exact absurd HA.out (by simp [markGS.l0])
    | succ k1 =>
      have H := HA.out
      clear HA
      simp only [markGS.l0] at H
      by_cases c3 : a2 < (x0.length : Int)
      · rw [if_pos c3] at H
        have a8 : decide (a2 < (x0.length : Int)) = true := decide_eq_true c3
        by_cases c4 : 0 ≤ a2
        · rw [if_pos c4] at H
          replace H := bN H
          obtain ⟨⟨t1, t2⟩, A6, H⟩ := H
          replace H := bN H
          obtain ⟨⟨t3, t4⟩, A7, H⟩ := H
          have H' := aM H
          clear H
          have HG := (Kd.S_R HS.out).1
          obtain ⟨go5, C, rfl, b2, gl5, _⟩ := Kd.S_form HS.out (by omega)
          obtain ⟨oki, c, _, hM, _, _, hoki, hH⟩ := Kd.S_elem HS.out z42 a2 c4 c3
          obtain ⟨v0, v5, rfl, hR0, hR5⟩ := k42_openM hM
          obtain ⟨A0, C0, rfl⟩ := Kd.R_slice hR0
          obtain ⟨A5, C5, rfl⟩ := Kd.R_slice hR5
          have HE := EG.mk (w0 := w0) (w := w) (P0 := P0_) hH hR0 hR5 (fun k hk => (hoki k hk).2) (fun k hk => (hoki k hk).1) HK.out HB.out (HG go5 rfl) b2 c4 c3
          generalize x0.getD a2.toNat z42 = x at A6 A7 HE
          obtain ⟨s0, ⟨y1, y2, y3, y4⟩, s5, y6, ⟨y7, y8, y9, y10⟩⟩ := x
          dsimp only at A6 A7 HE
          replace HE := aM HE
          clear hoki hH hR0 hR5 hM HS b2 gl5 HG
          have p5 := eq_true c4
          have q5 := eq_true c3
          clear c3 c4
          have hs : wr.cell? ⟨go5, (a2 : Int).toNat * 11, none⟩ = some (.slice A0 s0.length C0) := (EG.cel HE.out 0 _ rfl).1
          try go_wp2_with (first | ((with_reducible refine gC 100 ?_); refine cM (some 18) Tryz.func100 (laws_markIntS.calls k1 (fun k_ => some k_ = ((.slice A0 s0.length C0) : Value).ownBlock) (.slice A0 s0.length C0) s0 (a1) t1 t2 w0 _ HE.out.hb (Kd.R_tight rfl HE.out.r0) A6.out) ?_; rintro e wz0 ⟨rfl, hi, hb, hkp⟩; refine ⟨_, rfl, ?_⟩; (try clear hs hf); replace HE := aM (EG.m0 HE.out hi hb hkp); clear hi hb hkp; obtain ⟨hs, hf⟩ := EG.cel HE.out 1 _ rfl) | ((with_reducible refine gate_store (t := 3) (p := 24) rfl ?_); refine store_event (t := 3) (p := 24) (v := ?vo_wz1) (w1 := (wz0.setCell ⟨go5, (a2 : Int).toNat * 11 + 1, none⟩ (.int .i64 (t1)))) ?hg ?ho ?hn ?hr ?_; (case ho => rfl); (case hg => rfl); (case hn => rfl); (case hr => first | (go_simp; done) | (go_simp; rfl)); intro wz1 hw; replace HE := EG.put HE.out 1 (.int .i64 (t1)) (by decide) rfl rfl; rw [← hw] at HE; replace HE := aM HE; clear hw hs hf; obtain ⟨hs, hf⟩ := EG.cel HE.out 2 _ rfl) | ((with_reducible refine gate_store (t := 3) (p := 32) rfl ?_); refine store_event (t := 3) (p := 32) (v := ?vo_wz2) (w1 := (wz1.setCell ⟨go5, (a2 : Int).toNat * 11 + 2, none⟩ (.int .i64 (wrap64 (t1 + 1))))) ?hg ?ho ?hn ?hr ?_; (case ho => rfl); (case hg => rfl); (case hn => rfl); (case hr => first | (go_simp; done) | (go_simp; rfl)); intro wz2 hw; replace HE := EG.put HE.out 2 (.int .i64 (wrap64 (t1 + 1))) (by decide) rfl rfl; rw [← hw] at HE; replace HE := aM HE; clear hw hs hf; obtain ⟨hs, hf⟩ := EG.cel HE.out 3 _ rfl) | ((with_reducible refine gate_store (t := 3) (p := 40) rfl ?_); refine store_event (t := 3) (p := 40) (v := ?vo_wz3) (w1 := (wz2.setCell ⟨go5, (a2 : Int).toNat * 11 + 3, none⟩ (.int .i64 (wrap64 ((wrap64 (t1 + 1)) + 1))))) ?hg ?ho ?hn ?hr ?_; (case ho => rfl); (case hg => rfl); (case hn => rfl); (case hr => first | (go_simp; done) | (go_simp; rfl)); intro wz3 hw; replace HE := EG.put HE.out 3 (.int .i64 (wrap64 ((wrap64 (t1 + 1)) + 1))) (by decide) rfl rfl; rw [← hw] at HE; replace HE := aM HE; clear hw hs hf; obtain ⟨hs, hf⟩ := EG.cel HE.out 4 _ rfl) | ((with_reducible refine gate_store (t := 3) (p := 48) rfl ?_); refine store_event (t := 3) (p := 48) (v := ?vo_wz4) (w1 := (wz3.setCell ⟨go5, (a2 : Int).toNat * 11 + 4, none⟩ (.int .i64 (wrap64 ((wrap64 ((wrap64 (t1 + 1)) + 1)) + 1))))) ?hg ?ho ?hn ?hr ?_; (case ho => rfl); (case hg => rfl); (case hn => rfl); (case hr => first | (go_simp; done) | (go_simp; rfl)); intro wz4 hw; replace HE := EG.put HE.out 4 (.int .i64 (wrap64 ((wrap64 ((wrap64 (t1 + 1)) + 1)) + 1))) (by decide) rfl rfl; rw [← hw] at HE; replace HE := aM HE; clear hw hs hf; obtain ⟨hs, hf⟩ := EG.cel HE.out 5 _ rfl) | ((with_reducible refine gC 101 ?_); refine cM (some 57) Tryz.func101 (laws_markPointS.calls k1 (fun k_ => some k_ = ((.slice A5 s5.length C5) : Value).ownBlock) (.slice A5 s5.length C5) s5 (wrap64 ((wrap64 ((wrap64 ((wrap64 (t1 + 1)) + 1)) + 1)) + 1)) t3 t4 w0 _ HE.out.hb (Kd.R_tight rfl HE.out.r5) A7.out) ?_; rintro e wz5 ⟨rfl, hi, hb, hkp⟩; refine ⟨_, rfl, ?_⟩; (try clear hs hf); replace HE := aM (EG.m5 HE.out hi hb hkp); clear hi hb hkp; obtain ⟨hs, hf⟩ := EG.cel HE.out 6 _ rfl) | ((with_reducible refine gate_store (t := 3) (p := 62) rfl ?_); refine store_event (t := 3) (p := 62) (v := ?vo_wz6) (w1 := (wz5.setCell ⟨go5, (a2 : Int).toNat * 11 + 6, none⟩ (.int .i64 (t3)))) ?hg ?ho ?hn ?hr ?_; (case ho => rfl); (case hg => rfl); (case hn => rfl); (case hr => first | (go_simp; done) | (go_simp; rfl)); intro wz6 hw; replace HE := EG.put HE.out 6 (.int .i64 (t3)) (by decide) rfl rfl; rw [← hw] at HE; replace HE := aM HE; clear hw hs hf; obtain ⟨hs, hf⟩ := EG.cel HE.out 7 _ rfl) | ((with_reducible refine gate_store (t := 3) (p := 70) rfl ?_); refine store_event (t := 3) (p := 70) (v := ?vo_wz7) (w1 := (wz6.setCell ⟨go5, (a2 : Int).toNat * 11 + 7, none⟩ (.int .i64 (wrap64 (t3 + 1))))) ?hg ?ho ?hn ?hr ?_; (case ho => rfl); (case hg => rfl); (case hn => rfl); (case hr => first | (go_simp; done) | (go_simp; rfl)); intro wz7 hw; replace HE := EG.put HE.out 7 (.int .i64 (wrap64 (t3 + 1))) (by decide) rfl rfl; rw [← hw] at HE; replace HE := aM HE; clear hw hs hf; obtain ⟨hs, hf⟩ := EG.cel HE.out 8 _ rfl) | ((with_reducible refine gate_store (t := 3) (p := 78) rfl ?_); refine store_event (t := 3) (p := 78) (v := ?vo_wz8) (w1 := (wz7.setCell ⟨go5, (a2 : Int).toNat * 11 + 8, none⟩ (.int .i64 (wrap64 ((wrap64 (t3 + 1)) + 1))))) ?hg ?ho ?hn ?hr ?_; (case ho => rfl); (case hg => rfl); (case hn => rfl); (case hr => first | (go_simp; done) | (go_simp; rfl)); intro wz8 hw; replace HE := EG.put HE.out 8 (.int .i64 (wrap64 ((wrap64 (t3 + 1)) + 1))) (by decide) rfl rfl; rw [← hw] at HE; replace HE := aM HE; clear hw hs hf; obtain ⟨hs, hf⟩ := EG.cel HE.out 9 _ rfl) | ((with_reducible refine gate_store (t := 3) (p := 86) rfl ?_); refine store_event (t := 3) (p := 86) (v := ?vo_wz9) (w1 := (wz8.setCell ⟨go5, (a2 : Int).toNat * 11 + 9, none⟩ (.int .i64 (wrap64 ((wrap64 ((wrap64 (t3 + 1)) + 1)) + 1))))) ?hg ?ho ?hn ?hr ?_; (case ho => rfl); (case hg => rfl); (case hn => rfl); (case hr => first | (go_simp; done) | (go_simp; rfl)); intro wz9 hw; replace HE := EG.put HE.out 9 (.int .i64 (wrap64 ((wrap64 ((wrap64 (t3 + 1)) + 1)) + 1))) (by decide) rfl rfl; rw [← hw] at HE; replace HE := aM HE; clear hw hs hf; obtain ⟨hs, hf⟩ := EG.cel HE.out 10 _ rfl) | ((with_reducible refine gate_store (t := 3) (p := 94) rfl ?_); refine store_event (t := 3) (p := 94) (v := ?vo_wz10) (w1 := (wz9.setCell ⟨go5, (a2 : Int).toNat * 11 + 10, none⟩ (.int .i64 (wrap64 ((wrap64 ((wrap64 ((wrap64 (t3 + 1)) + 1)) + 1)) + 1))))) ?hg ?ho ?hn ?hr ?_; (case ho => rfl); (case hg => rfl); (case hn => rfl); (case hr => first | (go_simp; done) | (go_simp; rfl)); intro wz10 hw; replace HE := EG.put HE.out 10 (.int .i64 (wrap64 ((wrap64 ((wrap64 ((wrap64 (t3 + 1)) + 1)) + 1)) + 1))) (by decide) rfl rfl; rw [← hw] at HE; replace HE := aM HE; clear hw hs hf))
          go_roundg k1
          case measure => have := b1.out; omega
          case rel => exact ⟨x0.set (a2 : Int).toNat (⟨t2, ⟨t1, wrap64 (t1 + 1), wrap64 ((wrap64 (t1 + 1)) + 1), wrap64 ((wrap64 ((wrap64 (t1 + 1)) + 1)) + 1)⟩, t4, t3, ⟨wrap64 (t3 + 1), wrap64 ((wrap64 (t3 + 1)) + 1), wrap64 ((wrap64 ((wrap64 (t3 + 1)) + 1)) + 1), wrap64 ((wrap64 ((wrap64 ((wrap64 (t3 + 1)) + 1)) + 1)) + 1)⟩⟩ : S42), (wrap64 ((wrap64 ((wrap64 ((wrap64 ((wrap64 (t3 + 1)) + 1)) + 1)) + 1)) + 1)), wrap64 (a2 + 1), fS, fS, H', ⟨by have := b1.out; omega⟩, ⟨Kd.H_back HE.out.hh (k42_mkM _ _ _ (⟨t2, ⟨t1, wrap64 (t1 + 1), wrap64 ((wrap64 (t1 + 1)) + 1), wrap64 ((wrap64 ((wrap64 (t1 + 1)) + 1)) + 1)⟩, t4, t3, ⟨wrap64 (t3 + 1), wrap64 ((wrap64 (t3 + 1)) + 1), wrap64 ((wrap64 ((wrap64 (t3 + 1)) + 1)) + 1), wrap64 ((wrap64 ((wrap64 ((wrap64 (t3 + 1)) + 1)) + 1)) + 1)⟩⟩ : S42) HE.out.r0 HE.out.r5) (fun _ hk => hk)⟩, ⟨HE.out.hk⟩, ⟨HE.out.hb⟩⟩
        · rw [if_neg c4] at H
          exact absurd H (by simp)
      · rw [if_neg c3] at H
        have a8 : decide (a2 < (x0.length : Int)) = false := decide_eq_false c3
        clear c3
        obtain ⟨rfl, rfl⟩ := sI2 H
        obtain ⟨b7, b8, b6⟩ := Kd.S_slice HS.out
        subst b6
        go_wp2
        go_ret
        exact ⟨eS, HS.out, HB.out, HK.out⟩
end Go.Proofs.YtjkgponlahfnjaaGreat.Ex
namespace Go.Proofs.YtjkgponlahfnjaaGreat.Ex
open Go.RowKit Go.Proofs.YtjkgponlahfnjaaGreatW.PrintWords Go.Proofs.YtjkgponlahfnjaaGreatW.PrintLast Go.Proofs.YtjkgponlahfnjaaGreatW.PrintMore
open Go.Proofs.YtjkgponlahfnjaaGreat.QFnExactRunPage Go.Proofs.YtjkgponlahfnjaaGreat.Pure Go.Proofs.YtjkgponlahfnjaaGreat.Plain
def mkGr (b : Int) (x : S42) : S42 := ⟨iota 1 id b x.f0.length, ⟨b + x.f0.length, b + x.f0.length + 1, b + x.f0.length + 2, b + x.f0.length + 3⟩, iota 2 mkPoint (b + x.f0.length + 4) x.f2.length, b + x.f0.length + 4 + 2 * x.f2.length, ⟨b + x.f0.length + 4 + 2 * x.f2.length + 1, b + x.f0.length + 4 + 2 * x.f2.length + 2, b + x.f0.length + 4 + 2 * x.f2.length + 3, b + x.f0.length + 4 + 2 * x.f2.length + 4⟩⟩
def lnGr (x : S42) : Int := x.f0.length + 4 + 2 * x.f2.length + 5
theorem markGS_ev (l : List S42) (a : Int) (hm : l.length ≤ maxLen) (hx : ∀ x ∈ l, x.f0.length ≤ maxLen ∧ x.f2.length ≤ maxLen) (h0 : 0 ≤ a) (h1 : a + lnAll lnGr l ≤ 9223372036854775806) : Ev (fun k => markGS.f k l a) (a + lnAll lnGr l, mkAll mkGr lnGr a l) := by
  simp only [markGS.f]
  refine ev_mark mkGr lnGr l a (fun x _ => by unfold lnGr; omega) (fun s b hs => ?_) (fun done x rest b hl hxm hab hbl r ih => ?_)
  · simp only [markGS.l0, hs, end_lt, if_false]; exact Ev.now _
  · rw [show lnGr x = (x.f0.length : Int) + 4 + 2 * x.f2.length + 5 from rfl] at hbl
    have hxx := hx x hxm
    simp only [markGS.l0, mid_lt2, mid_nn, if_true, Int.toNat_natCast, mid_get, mid_w2 (show done.length + 1 ≤ maxLen by omega)]
    refine Ev.bind (markIntS_ev x.f0 b hxx.1 (by omega) (by omega)) ?_
    have e : b + (x.f0.length : Int) + 4 = b + x.f0.length + 3 + 1 := by omega
    have w1 : wrap64 (b + (x.f0.length : Int) + 1) = b + x.f0.length + 1 := wrap_id (by omega) (by omega)
    have w2 : wrap64 (b + (x.f0.length : Int) + 1 + 1) = b + x.f0.length + 2 := by rw [wrap_id (by omega) (by omega)]; omega
    have w3 : wrap64 (b + (x.f0.length : Int) + 2 + 1) = b + x.f0.length + 3 := by rw [wrap_id (by omega) (by omega)]; omega
    have w4 : wrap64 (b + (x.f0.length : Int) + 3 + 1) = b + x.f0.length + 4 := by rw [wrap_id (by omega) (by omega)]; omega
    simp only [w1, w2, w3, w4]
    refine Ev.bind (markPointS_ev x.f2 (b + x.f0.length + 4) hxx.2 (by omega) (by omega)) ?_
    have w5 : wrap64 (b + (x.f0.length : Int) + 4 + 2 * x.f2.length + 1) = b + x.f0.length + 4 + 2 * x.f2.length + 1 := wrap_id (by omega) (by omega)
    have w6 : wrap64 (b + (x.f0.length : Int) + 4 + 2 * x.f2.length + 1 + 1) = b + x.f0.length + 4 + 2 * x.f2.length + 2 := by rw [wrap_id (by omega) (by omega)]; omega
    have w7 : wrap64 (b + (x.f0.length : Int) + 4 + 2 * x.f2.length + 2 + 1) = b + x.f0.length + 4 + 2 * x.f2.length + 3 := by rw [wrap_id (by omega) (by omega)]; omega
    have w8 : wrap64 (b + (x.f0.length : Int) + 4 + 2 * x.f2.length + 3 + 1) = b + x.f0.length + 4 + 2 * x.f2.length + 4 := by rw [wrap_id (by omega) (by omega)]; omega
    have w9 : wrap64 (b + (x.f0.length : Int) + 4 + 2 * x.f2.length + 4 + 1) = b + lnGr x := by rw [wrap_id (by omega) (by omega)]; unfold lnGr; omega
    simp only [set_mid, w5, w6, w7, w8, w9]
    exact ih
theorem heldGS_ev (l : List S42) (a : Int) (hm : l.length ≤ maxLen) (h0 : 0 ≤ a) (h1 : a + lnAll lnGr l ≤ 9223372036854775806) : Ev (fun k => laws_heldGraphicsS.f k (mkAll mkGr lnGr a l) a) (a + lnAll lnGr l) := by
  simp only [laws_heldGraphicsS.f]
  refine ev_held mkGr lnGr l (F := fun k b i => laws_heldGraphicsS.l0 k (mkAll mkGr lnGr a l) b i) a (fun x _ => by unfold lnGr; omega) (fun b => ?_) (fun pre x rest b he hxm hab hbl r ih => ?_)
  · simp only [laws_heldGraphicsS.l0, end_lt, if_false]; exact Ev.now _
  · have hn := congrArg List.length he
    rw [mkAll_length, List.length_append, List.length_cons] at hn
    rw [show lnGr x = (x.f0.length : Int) + 4 + 2 * x.f2.length + 5 from rfl] at hbl
    rw [he] at ih ⊢
    simp only [laws_heldGraphicsS.l0, mid_lt2, mid_nn, if_true, rd_T42, Int.toNat_natCast, mid_get, mid_w2 (show pre.length + 1 ≤ maxLen by omega), mkGr]
    refine Ev.bind (heldIntS_ev x.f0.length b (by omega) (by omega)) ?_
    have w1 : wrap64 (b + (x.f0.length : Int) + 1) = b + x.f0.length + 1 := wrap_id (by omega) (by omega)
    have w2 : wrap64 (b + (x.f0.length : Int) + 1 + 1) = b + x.f0.length + 2 := by rw [wrap_id (by omega) (by omega)]; omega
    have w3 : wrap64 (b + (x.f0.length : Int) + 2 + 1) = b + x.f0.length + 3 := by rw [wrap_id (by omega) (by omega)]; omega
    have w4 : wrap64 (b + (x.f0.length : Int) + 3 + 1) = b + x.f0.length + 4 := by rw [wrap_id (by omega) (by omega)]; omega
    simp only [if_neg (show ¬ b + (x.f0.length : Int) < 0 by omega), if_true, w1, w2, w3, w4]
    refine Ev.bind (heldPointS_ev x.f2.length (b + x.f0.length + 4) (by omega) (by omega)) ?_
    have w5 : wrap64 (b + (x.f0.length : Int) + 4 + 2 * x.f2.length + 1) = b + x.f0.length + 4 + 2 * x.f2.length + 1 := wrap_id (by omega) (by omega)
    have w6 : wrap64 (b + (x.f0.length : Int) + 4 + 2 * x.f2.length + 1 + 1) = b + x.f0.length + 4 + 2 * x.f2.length + 2 := by rw [wrap_id (by omega) (by omega)]; omega
    have w7 : wrap64 (b + (x.f0.length : Int) + 4 + 2 * x.f2.length + 2 + 1) = b + x.f0.length + 4 + 2 * x.f2.length + 3 := by rw [wrap_id (by omega) (by omega)]; omega
    have w8 : wrap64 (b + (x.f0.length : Int) + 4 + 2 * x.f2.length + 3 + 1) = b + x.f0.length + 4 + 2 * x.f2.length + 4 := by rw [wrap_id (by omega) (by omega)]; omega
    have w9 : wrap64 (b + (x.f0.length : Int) + 4 + 2 * x.f2.length + 4 + 1) = b + lnGr x := by rw [wrap_id (by omega) (by omega)]; unfold lnGr; omega
    simp only [if_neg (show ¬ b + (x.f0.length : Int) + 4 + 2 * x.f2.length < 0 by omega), if_true, w5, w6, w7, w8, w9]
    exact ih
def lnG (q : Pg) : Int := q.g.f0.length + 2 * q.g.f2.length
def lnPg (q : Pg) : Int := lnG q + lnAll lnGr q.sv + lnAll lnOb q.ob
def mkPg (a : Int) (q : Pg) : Pg := ⟨⟨iota 1 id a q.g.f0.length, q.g.f1, iota 2 mkPoint (a + q.g.f0.length) q.g.f2.length, q.g.f3, q.g.f4⟩, mkAll mkGr lnGr (a + lnG q) q.sv, mkAll mkOb lnOb (a + lnG q + lnAll lnGr q.sv) q.ob⟩
theorem lnPg_bd {q : Pg} (h : pgN 1048576 q) : 0 ≤ lnG q ∧ 0 ≤ lnAll lnGr q.sv ∧ 0 ≤ lnAll lnOb q.ob ∧ lnPg q ≤ 9000000000000000 := by
  obtain ⟨h1, h2, h3, h4, h5, h6⟩ := h
  have a1 := lnAll_nn lnGr q.sv (fun x _ => by unfold lnGr; omega)
  have a2 := lnAll_nn lnOb q.ob (fun x _ => by unfold lnOb; omega)
  have a3 := lnAll_le lnGr q.sv (fun x hx => by have := h4 x hx; unfold lnGr; omega)
  have a4 := lnAll_le lnOb q.ob (fun x hx => by have := h6 x hx; unfold lnOb; omega)
  refine ⟨by unfold lnG; omega, a1, a2, ?_⟩
  unfold lnPg lnG
  omega
theorem pgM {q : Pg} (h : pgN 1048576 q) : q.g.f0.length ≤ maxLen ∧ q.g.f2.length ≤ maxLen ∧ q.sv.length ≤ maxLen ∧ (∀ x ∈ q.sv, x.f0.length ≤ maxLen ∧ x.f2.length ≤ maxLen) ∧ q.ob.length ≤ maxLen ∧ ∀ x ∈ q.ob, x.f0.length ≤ maxLen := by
  rw [maxLen_eq]
  exact pgN_mono h (by decide)
theorem heldPage_ev {q : Pg} (hn : pgN 1048576 q) : Ev (fun k => laws_heldPage.f k (mkPg 1 q).g.f0 q.g.f1.f0 q.g.f1.f1 q.g.f1.f2 q.g.f1.f3 (mkPg 1 q).g.f2 q.g.f3 q.g.f4.f0 q.g.f4.f1 q.g.f4.f2 q.g.f4.f3 (mkPg 1 q).sv (mkPg 1 q).ob 1) (1 + lnPg q) := by
  obtain ⟨b1, b2, b3, b4⟩ := lnPg_bd hn
  obtain ⟨h1, h2, h3, h4, h5, h6⟩ := pgM hn
  unfold lnPg at b4
  have eg : lnG q = q.g.f0.length + 2 * q.g.f2.length := rfl
  simp only [laws_heldPage.f, laws_heldGraphics.f, mkPg]
  refine Ev.bind (a := 1 + (q.g.f0.length : Int) + 2 * q.g.f2.length) ?_ ?_
  · refine Ev.bind (heldIntS_ev _ 1 (by omega) (by omega)) ?_
    simp only [if_neg (show ¬ 1 + (q.g.f0.length : Int) < 0 by omega)]
    refine Ev.bind (heldPointS_ev _ _ (by omega) (by omega)) ?_
    simp only [if_neg (show ¬ 1 + (q.g.f0.length : Int) + 2 * q.g.f2.length < 0 by omega)]
    exact Ev.now _
  simp only [if_neg (show ¬ 1 + (q.g.f0.length : Int) + 2 * q.g.f2.length < 0 by omega)]
  rw [show 1 + (q.g.f0.length : Int) + 2 * q.g.f2.length = 1 + lnG q by omega]
  refine Ev.bind (heldGS_ev q.sv _ h3 (by omega) (by omega)) ?_
  simp only [if_neg (show ¬ 1 + lnG q + lnAll lnGr q.sv < 0 by omega)]
  refine Ev.bind (heldObjectS_ev q.ob _ h5 (by omega) (by omega)) ?_
  simp only [if_neg (show ¬ 1 + lnG q + lnAll lnGr q.sv + lnAll lnOb q.ob < 0 by omega)]
  exact Ev.val (by unfold lnPg; omega)
end Go.Proofs.YtjkgponlahfnjaaGreat.Ex
namespace Go.Proofs.YtjkgponlahfnjaaGreat.Ex
open Go.RowKit Go.Proofs.YtjkgponlahfnjaaGreatW.PrintWords Go.Proofs.YtjkgponlahfnjaaGreatW.PrintLast Go.Proofs.YtjkgponlahfnjaaGreatW.PrintMore
open Go.Proofs.YtjkgponlahfnjaaGreat.QFnExactRunPage Go.Proofs.YtjkgponlahfnjaaGreat.Pure Go.Proofs.YtjkgponlahfnjaaGreat.Plain
attribute [local go_sem] Tryz.underlying46 Tryz.underlying42 Tryz.underlying38 Tryz.underlying111 Tryz.underlying40 Tryz.underlying103
theorem base_ {w : World} {B : Nat} (h : B ≤ w.heap.size) : ∃ w0 : World, w0.heap.size = B ∧ Below w0.heap.size w0 w := by
  have e : (w.heap.extract 0 B).size = B := by rw [Array.size_extract]; omega
  refine ⟨{ w with heap := w.heap.extract 0 B }, e, rfl, rfl, rfl, by show (w.heap.extract 0 B).size ≤ _; omega, fun k hk => ?_⟩
  replace hk : k < B := by rw [← e]; exact hk
  show w.heap[k]? = (w.heap.extract 0 B)[k]?
  rw [Array.getElem?_extract, if_pos (by omega), Nat.zero_add]
section
variable {w w1 : World} {B N : Nat} {q : Pg} {c : Nat → Nat} {s p v o : Value}
def Typed (w : World) (k : Nat) : Prop := ∃ cs t, w.heap[k]? = some (.cells cs t (0, 0)) ∧ t ∈ [3, 111, 42, 103]
structure OwnP (w : World) (B N : Nat) (q : Pg) (s p v o : Value) : Prop where
  ex : ∃ c, Rw w B c s p v o q.g.f0 q.g.f2 q.sv q.ob ∧ ∀ k, c k < 4 → B ≤ k ∧ k < N ∧ Typed w k
  hN : N ≤ w.heap.size
theorem R_tt {α : Type} {d : Kd α} {e : Nat} {ok : Nat → Prop} {xs : List α} (h : Kd.R d e w B ok v xs) (ht : ∀ q, q ∈ e :: d.E → q ∈ [3, 111, 42, 103]) : Kd.R d e w B (fun k => ok k ∧ B ≤ k ∧ k < w.heap.size ∧ Typed w k) v xs :=
  Kd.R_mono (Kd.R_bound h) (fun k ⟨h0, h1, h2, q, hq, cs, hx⟩ => ⟨h0, h1, h2, cs, q, hx, ht q hq⟩)
theorem S_tt {α : Type} {d : Kd α} {e : Nat} {ok : Nat → Prop} {xs : List α} (h : Kd.S d e w B ok v xs) (ht : ∀ q, q ∈ e :: d.E → q ∈ [3, 111, 42, 103]) : Kd.S d e w B (fun k => ok k ∧ B ≤ k ∧ k < w.heap.size ∧ Typed w k) v xs :=
  Kd.S_mono (Kd.S_bound h) (fun k ⟨h0, h1, h2, q, hq, cs, hx⟩ => ⟨h0, h1, h2, cs, q, hx, ht q hq⟩)
theorem OwnP.of (h : Rw w B c s p v o q.g.f0 q.g.f2 q.sv q.ob) : OwnP w B w.heap.size q s p v o := by
  classical
  refine ⟨⟨fun k => if B ≤ k ∧ k < w.heap.size ∧ Typed w k then c k else 9, ⟨Kd.R_mono (R_tt h.hs (by decide)) (fun k hk => (if_pos hk.2).trans hk.1), Kd.R_mono (R_tt h.hp (by decide)) (fun k hk => (if_pos hk.2).trans hk.1), Kd.S_mono (S_tt h.hv (by decide)) (fun k hk => (if_pos hk.2).trans hk.1), Kd.S_mono (S_tt h.ho (by decide)) (fun k hk => (if_pos hk.2).trans hk.1)⟩, fun k hk => ?_⟩, Nat.le_refl _⟩
  by_cases e : B ≤ k ∧ k < w.heap.size ∧ Typed w k
  · exact e
  · simp only [if_neg e] at hk; omega
theorem OwnP.keep (h : OwnP w B N q s p v o) (hz : w.heap.size ≤ w1.heap.size) (hk : ∀ k, B ≤ k → k < N → Typed w k → w1.heap[k]? = w.heap[k]?) : OwnP w1 B N q s p v o := by
  obtain ⟨⟨c, hR, hc⟩, hN⟩ := h
  have st : ∀ {j : Nat}, j < 4 → ∀ k, c k = j → k < w.heap.size → w1.heap[k]? = w.heap[k]? := fun hj k hk' _ => by
    obtain ⟨h1, h2, h3⟩ := hc k (by omega)
    exact hk k h1 h2 h3
  refine ⟨⟨c, ⟨Kd.R_step hR.hs (st (by decide)), Kd.R_step hR.hp (st (by decide)), Kd.S_step hR.hv (st (by decide)), Kd.S_step hR.ho (st (by decide))⟩, fun k hc' => ?_⟩, Nat.le_trans hN hz⟩
  obtain ⟨h1, h2, h3⟩ := hc k hc'
  refine ⟨h1, h2, ?_⟩
  obtain ⟨cs, t, h4, h5⟩ := h3
  exact ⟨cs, t, (hk k h1 h2 ⟨cs, t, h4, h5⟩).trans h4, h5⟩
theorem OwnP.below (h : OwnP w B N q s p v o) (hb : Below w.heap.size w w1) : OwnP w1 B N q s p v o := h.keep hb.size (fun k _ hk _ => hb.block k (Nat.lt_of_lt_of_le hk h.hN))
theorem OwnP.on {l : List Nat} (h : OwnP w B N q s p v o) (ha : Alien (fun _ => 0) w l) (hW : OnL l w w1) : OwnP w1 B N q s p v o := h.keep hW.1 (fun k _ hk ht => hW.2 k (Nat.lt_of_lt_of_le hk h.hN) (fun hm => by
  obtain ⟨cs, t, h1, h2⟩ := ht
  rcases ha k hm with ⟨cs', t', h3, h4⟩ | h3
  · rw [h1] at h3
    injection h3 with h3
    injection h3 with _ h3
    exact h4 (h3 ▸ h2)
  · exact absurd h3 (by simp)))
theorem OwnP.kept {S : Nat → Prop} (h : OwnP w B N q s p v o) (hk : Kept w w1 S) (hS : ∀ k, B ≤ k → k < N → ¬ S k) : OwnP w1 B N q s p v o := h.keep hk.1 (fun k h1 h2 _ => hk.2 k (Nat.lt_of_lt_of_le h2 h.hN) (hS k h1 h2))
theorem RdR.ofR {α : Type} {d : Kd α} {e : Nat} {ok : Nat → Prop} {xs : List α} (h : Kd.R d e w B ok v xs) : RdR d w v xs := by
  obtain ⟨A, C, rfl⟩ := Kd.R_slice h
  exact ⟨A, C, rfl, (Kd.R_reads' h).2.1, (Kd.R_reads' h).2.2⟩
theorem RdR.ofS {α : Type} {d : Kd α} {e : Nat} {ok : Nat → Prop} {xs : List α} (h : Kd.S d e w B ok v xs) : RdR d w v xs := by
  obtain ⟨A, C, rfl⟩ := Kd.S_slice h
  exact ⟨A, C, rfl, (Kd.S_reads' h).2.1, (Kd.S_reads' h).2.2⟩
theorem OwnP.rd (h : OwnP w B N q s p v o) : RdP w q s p v o := by
  obtain ⟨⟨c, hR, _⟩, _⟩ := h
  exact ⟨RdR.ofR hR.hs, RdR.ofR hR.hp, RdR.ofS hR.hv, RdR.ofS hR.ho⟩
theorem NewP.own {x : Value} (h : NewP w q x w1) : Below w.heap.size w w1 ∧ ∃ s p v o, x = .agg (cels q s p v o) ∧ OwnP w1 w.heap.size w1.heap.size q s p v o := by
  obtain ⟨hb, c, s, p, v, o, rfl, hR⟩ := h
  exact ⟨hb, s, p, v, o, rfl, OwnP.of hR⟩
theorem eqPage_c {s' p' v' o' : Value} (h : RdP w q s p v o) (h' : RdP w q s' p' v' o') (hn : pgN 1048576 q) : Calls Tryz.prog 11 #[.agg (cels q s p v o), .agg (cels q s' p' v' o')] w (fun e w' => e = .returned (.bool true) ∧ Below w.heap.size w w') := by
  obtain ⟨h1, h2, h3, h4, h5, h6⟩ := pgM hn
  obtain ⟨k, hk⟩ := eqPage_ev q.g.f0 q.g.f1.f0 q.g.f1.f1 q.g.f1.f2 q.g.f1.f3 q.g.f2 q.g.f3 q.g.f4.f0 q.g.f4.f1 q.g.f4.f2 q.g.f4.f3 q.sv q.ob h1 h2 h3 h4 h5 h6
  obtain ⟨⟨A0, C0, rfl, a0, b0⟩, ⟨A1, C1, rfl, a1, b1⟩, ⟨A2, C2, rfl, a2, b2⟩, ⟨A3, C3, rfl, a3, b3⟩⟩ := h
  obtain ⟨⟨A4, C4, rfl, a4, b4⟩, ⟨A5, C5, rfl, a5, b5⟩, ⟨A6, C6, rfl, a6, b6⟩, ⟨A7, C7, rfl, a7, b7⟩⟩ := h'
  exact laws_eqPage.calls k _ _ _ _ _ _ _ _ _ _ _ _ _ _ _ _ _ _ _ _ _ _ _ _ _ _ _ _ _ _ _ _ _ _ _ _ _ _ _ _ _ _ _ _ b0 a0 b1 a1 b2 a2 b3 a3 b4 a4 b5 a5 b6 a6 b7 a7 (hk k (Nat.le_refl _))
theorem heldPage_c (h : RdP w (mkPg 1 q) s p v o) (hn : pgN 1048576 q) : Calls Tryz.prog 13 #[.agg (cels (mkPg 1 q) s p v o), .int .i64 1] w (fun e w' => e = .returned (.int .i64 (1 + lnPg q)) ∧ Below w.heap.size w w') := by
  obtain ⟨k, hk⟩ := heldPage_ev hn
  obtain ⟨⟨A0, C0, rfl, a0, b0⟩, ⟨A1, C1, rfl, a1, b1⟩, ⟨A2, C2, rfl, a2, b2⟩, ⟨A3, C3, rfl, a3, b3⟩⟩ := h
  exact laws_heldPage.calls k _ _ _ _ _ _ _ _ _ _ _ _ _ _ _ _ _ _ _ _ _ _ _ _ b0 a0 b1 a1 b2 a2 b3 a3 (hk k (Nat.le_refl _)) (by obtain ⟨b1, b2, b3, b4⟩ := lnPg_bd hn; unfold lnPg; omega)
theorem Rw.mkSP {st st' : List Int} {pa pa' : List S111} {sv : List S42} {ob : List S103} {okS okP : Nat → Prop} (h : Rw w B c s p v o st pa sv ob) (hs : Kd.R (Kd.int .i64) 3 w1 B okS s st') (hp : Kd.R k111 111 w1 B okP p pa') (hk : Kept w w1 (fun k => c k = 0 ∨ c k = 1)) : Rw w1 B c s p v o st' pa' sv ob :=
  ⟨Kd.R_mono (Kd.R_tight rfl hs) (fun k hk => h.hs.1 k hk.symm), Kd.R_mono (Kd.R_tight rfl hp) (fun k hk => h.hp.1 k hk.symm), Kd.S_kept h.hv hk (fun k h1 h2 => by omega), Kd.S_kept h.ho hk (fun k h1 h2 => by omega)⟩
theorem Rw.mkV {st : List Int} {pa : List S111} {sv sv' : List S42} {ob : List S103} (h : Rw w B c s p v o st pa sv ob) (hv : Kd.S k42 42 w1 B (fun k => c k = 2 ∨ w.heap.size ≤ k) v sv') (hk : Kept w w1 (fun k => c k = 2)) : Rw w1 B (tint c w.heap.size 2) s p v o st pa sv' ob := by
  have ne : ∀ {j : Nat}, j ≠ 2 → ∀ k, tint c w.heap.size 2 k = j → ¬ c k = 2 := fun hj k h1 h2 => by unfold tint at h1; split at h1 <;> omega
  have hd := h.dye 2
  exact ⟨Kd.R_kept hd.hs hk (ne (by decide)), Kd.R_kept hd.hp hk (ne (by decide)), Kd.S_mono hv (fun k hk => by unfold tint; split <;> omega), Kd.S_kept hd.ho hk (ne (by decide))⟩
theorem Rw.mkO {st : List Int} {pa : List S111} {sv : List S42} {ob ob' : List S103} (h : Rw w B c s p v o st pa sv ob) (ho : Kd.S k103 103 w1 B (fun k => c k = 3 ∨ w.heap.size ≤ k) o ob') (hk : Kept w w1 (fun k => c k = 3)) : Rw w1 B (tint c w.heap.size 3) s p v o st pa sv ob' := by
  have ne : ∀ {j : Nat}, j ≠ 3 → ∀ k, tint c w.heap.size 3 k = j → ¬ c k = 3 := fun hj k h1 h2 => by unfold tint at h1; split at h1 <;> omega
  have hd := h.dye 3
  exact ⟨Kd.R_kept hd.hs hk (ne (by decide)), Kd.R_kept hd.hp hk (ne (by decide)), Kd.S_kept hd.hv hk (ne (by decide)), Kd.S_mono ho (fun k hk => by unfold tint; split <;> omega)⟩
end
theorem Below.both {B : Nat} {w0 w w' : World} (h : Below B w0 w) (h' : Below B w0 w') (hz : w.heap.size ≤ w'.heap.size) : Below B w w' := ⟨h'.os.trans h.os.symm, h'.tape.trans h.tape.symm, h'.output.trans h.output.symm, hz, fun k hk => (h'.block k hk).trans (h.block k hk).symm⟩
theorem markPage_c {w : World} {B N : Nat} {q : Pg} {s p v o : Value} (h : OwnP w B N q s p v o) (hB : B ≤ w.heap.size) (hn : pgN 1048576 q) : Calls Tryz.prog 12 #[.agg (cels q s p v o), .int .i64 1] w (fun e w' => e = .returned (.int .i64 (1 + lnPg q)) ∧ OwnP w' B w'.heap.size (mkPg 1 q) s p v o ∧ Below B w w' ∧ Kept w w' (fun k => B ≤ k ∧ k < N ∧ Typed w k)) := by
  obtain ⟨⟨c, hR, hc⟩, hN⟩ := h
  obtain ⟨w0, rfl, HB⟩ := base_ hB
  obtain ⟨b1, b2, b3, b4⟩ := lnPg_bd hn
  obtain ⟨m1, m2, m3, m4, m5, m6⟩ := pgM hn
  have eg : lnG q = q.g.f0.length + 2 * q.g.f2.length := rfl
  have ep : lnPg q = lnG q + lnAll lnGr q.sv + lnAll lnOb q.ob := rfl
  obtain ⟨k1, hk1⟩ : ∃ k, laws_markGraphics.f k q.g.f0 q.g.f1.f0 q.g.f1.f1 q.g.f1.f2 q.g.f1.f3 q.g.f2 q.g.f3 q.g.f4.f0 q.g.f4.f1 q.g.f4.f2 q.g.f4.f3 1 = some (1 + lnG q, (mkPg 1 q).g.f0, (mkPg 1 q).g.f2) := by
    have : Ev (fun k => laws_markGraphics.f k q.g.f0 q.g.f1.f0 q.g.f1.f1 q.g.f1.f2 q.g.f1.f3 q.g.f2 q.g.f3 q.g.f4.f0 q.g.f4.f1 q.g.f4.f2 q.g.f4.f3 1) (1 + lnG q, (mkPg 1 q).g.f0, (mkPg 1 q).g.f2) := by
      simp only [laws_markGraphics.f, mkPg]
      refine Ev.bind (markIntS_ev q.g.f0 1 m1 (by omega) (by omega)) ?_
      refine Ev.bind (markPointS_ev q.g.f2 (1 + q.g.f0.length) m2 (by omega) (by omega)) ?_
      exact Ev.val (by rw [eg, Int.add_assoc])
    obtain ⟨k, hk⟩ := this
    exact ⟨k, hk k (Nat.le_refl _)⟩
  obtain ⟨k2, hk2⟩ := markGS_ev q.sv (1 + lnG q) m3 m4 (by omega) (by omega)
  replace hk2 := hk2 k2 (Nat.le_refl _)
  obtain ⟨k3, hk3⟩ := markObjectS_ev q.ob (1 + lnG q + lnAll lnGr q.sv) m5 m6 (by omega) (by omega)
  replace hk3 := hk3 k3 (Nat.le_refl _)
  have er : 1 + lnG q + lnAll lnGr q.sv + lnAll lnOb q.ob = 1 + lnPg q := by omega
  rw [er] at hk3
  replace hR := aM hR
  have HK := aM (Kept.refl w (fun k => w0.heap.size ≤ k ∧ k < N ∧ Typed w k))
  have hW := aM HB.size
  have h00 := HB
  replace HB := aM HB
  obtain ⟨R, hRR⟩ : ∃ R, R = 1 + lnPg q := ⟨_, rfl⟩
  rw [← hRR] at hk3 ⊢
  obtain ⟨sA, sC, rfl⟩ := Kd.R_slice hR.out.hs
  obtain ⟨pA, pC, rfl⟩ := Kd.R_slice hR.out.hp
  obtain ⟨vA, vC, rfl⟩ := Kd.S_slice hR.out.hv
  obtain ⟨oA, oC, rfl⟩ := Kd.S_slice hR.out.ho
  replace hRR := aM hRR
  replace ep := aM ep
  replace eg := aM eg
  replace er := aM er
  simp only [cels]
  go_enter Tryz.func12, Tryz.ntmps12
  try go_wp2_with (first | ((with_reducible refine gD 2 ?_); refine bxE #[.slice sA q.g.f0.length sC, .int .i64 q.g.f1.f0, .int .i64 q.g.f1.f1, .int .i64 q.g.f1.f2, .int .i64 q.g.f1.f3, .slice pA q.g.f2.length pC, .int .i64 q.g.f3, .int .i64 q.g.f4.f0, .int .i64 q.g.f4.f1, .int .i64 q.g.f4.f2, .int .i64 q.g.f4.f3, .slice vA q.sv.length vC, .slice oA q.ob.length oC] 46 ?_; intro a5 hg w4 a2 hb; have na : ¬ c a5 < 4 := (fun h => by have := hc a5 h; omega); replace HB := aM (below_then HB.out (hg ▸ hW.out) hb); replace HK := aM (HK.out.below hb); replace hR := aM (hR.out.below hb); clear hb hg; have hz := cz13 a2) | ((with_reducible refine gC 48 ?_); refine cM (some 8) Tryz.func48 (laws_markGraphics.calls k1 (fun k => c k = 0) _ q.g.f0 _ _ _ _ (fun k => c k = 1) _ q.g.f2 _ _ _ _ _ 1 _ _ _ w0 _ HB.out hR.out.hs hR.out.hp hk1) ?_; rintro e w5 ⟨rfl, h1, h2, hb, hkp⟩; refine ⟨_, rfl, ?_⟩; replace hR := aM (hR.out.mkSP h1 h2 hkp); replace HK := aM (HK.out.then_ hkp (fun k hk => .inl (hc k (by omega)))); replace a2 := aM (blk_kept a2.out hkp (fun h => na (by omega))); replace HB := aM hb; clear h1 h2 hb hkp; have hz5 := cz13 a2) | ((with_reducible refine gC 49 ?_); refine cM (some 12) Tryz.func49 (markGS_c k2 (fun k => c k = 2) _ q.sv _ _ _ w0 _ HB.out hR.out.hv hk2) ?_; rintro e w6 ⟨rfl, h1, hb, hkp⟩; refine ⟨_, rfl, ?_⟩; have hc3 : ∀ k, tint c w5.heap.size 2 k = 3 → c k = 3 := (fun k h => by unfold tint at h; split at h <;> omega); replace hR := hR.out.mkV h1 hkp; generalize tint c w5.heap.size 2 = c2 at hR hc3; replace hR := aM hR; replace HK := aM (HK.out.then_ hkp (fun k hk => .inl (hc k (by omega)))); replace a2 := aM (blk_kept a2.out hkp (fun h => na (by omega))); replace HB := aM hb; clear h1 hb hkp; have hz6 := cz13 a2) | ((with_reducible refine gC 50 ?_); refine cM (some 16) Tryz.func50 (laws_markObjectS.calls k3 (fun k => c2 k = 3) _ q.ob _ _ _ w0 _ HB.out hR.out.ho hk3) ?_; rintro e w7 ⟨rfl, h1, hb, hkp⟩; refine ⟨_, rfl, ?_⟩; replace hR := aM (hR.out.mkO h1 hkp); replace HK := aM (HK.out.then_ hkp (fun k hk => .inl (hc k (by have := hc3 k hk; omega)))); replace a2 := aM (blk_kept a2.out hkp (fun h => na (by have := hc3 _ h; omega))); replace HB := aM hb; clear h1 hb hkp; have hz7 := cz13 a2))
  go_ret
  exact ⟨rfl, OwnP.of (q := mkPg 1 q) hR.out, Below.both h00 HB.out HK.out.1, HK.out⟩
end Go.Proofs.YtjkgponlahfnjaaGreat.Ex
namespace Go.Proofs.YtjkgponlahfnjaaGreat.Ex
open Go.RowKit Go.Proofs.YtjkgponlahfnjaaGreatW.PrintWords Go.Proofs.YtjkgponlahfnjaaGreatW.PrintLast Go.Proofs.YtjkgponlahfnjaaGreatW.PrintMore
open Go.Proofs.YtjkgponlahfnjaaGreat.QFnExactRunPage Go.Proofs.YtjkgponlahfnjaaGreat.Pure Go.Proofs.YtjkgponlahfnjaaGreat.Plain
attribute [local go_sem] Tryz.underlying46 Tryz.underlying33 Tryz.underlying35 Tryz.underlying50
theorem lnPg_nn {q : Pg} (h : pgN 1048576 q) : ¬ 1 + lnPg q < 0 := by
  obtain ⟨b1, b2, b3, b4⟩ := lnPg_bd h
  unfold lnPg
  omega
theorem OwnP.sl {w : World} {B N : Nat} {q : Pg} {s p v o : Value} (h : OwnP w B N q s p v o) : ∃ sA sC pA pC vA vC oA oC, s = .slice sA q.g.f0.length sC ∧ p = .slice pA q.g.f2.length pC ∧ v = .slice vA q.sv.length vC ∧ o = .slice oA q.ob.length oC := by
  obtain ⟨⟨c, hR, _⟩, _⟩ := h
  obtain ⟨sA, sC, rfl⟩ := Kd.R_slice hR.hs
  obtain ⟨pA, pC, rfl⟩ := Kd.R_slice hR.hp
  obtain ⟨vA, vC, rfl⟩ := Kd.S_slice hR.hv
  obtain ⟨oA, oC, rfl⟩ := Kd.S_slice hR.ho
  exact ⟨sA, sC, pA, pC, vA, vC, oA, oC, rfl, rfl, rfl, rfl⟩
theorem OnL.keep {w w1 : World} {l : List Nat} {k : Nat} {o : Obj} (h : OnL l w w1) (hk : w.heap[k]? = some o) (hl : k ∉ l) : w1.heap[k]? = some o := (h.2 k (blk_lt hk) hl).trans hk
structure VP (w : World) (g : Nat) (E : Pg) (B N : Nat) (s p v o : Value) : Prop where
  a : w.heap[g]? = some (.cells (cels E s p v o) 46 (0, 0))
  O : OwnP w B N E s p v o
  hBN : B ≤ N
section
variable {w w1 : World} {g g' B N B' N' : Nat} {E : Pg} {s p v o : Value} {S : Nat → Prop}
theorem VP.below (h : VP w g E B N s p v o) (hb : Below w.heap.size w w1) : VP w1 g E B N s p v o := ⟨blk_below h.a hb, h.O.below hb, h.hBN⟩
theorem VP.on (h : VP w g E B N s p v o) (hW : OnL [g'] w w1) {cs : Array Value} {t : Nat} (hg : w.heap[g']? = some (.cells cs t (0, 0))) (hn : g ≠ g') (ht : t ∉ [3, 111, 42, 103] := by decide) : VP w1 g E B N s p v o := ⟨OnL.keep hW h.a (by simpa using hn), h.O.on (Alien.one ⟨hg⟩ ht) hW, h.hBN⟩
theorem ty_ {cs : Array Value} {t k : Nat} (h : w.heap[k]? = some (.cells cs t (0, 0))) (ht : t ∉ [3, 111, 42, 103]) : ¬ Typed w k := fun ⟨cs', t', h', ht'⟩ => by
  rw [h] at h'
  injection h' with h'
  injection h' with _ h'
  exact ht (h' ▸ ht')
theorem keepB {cs : Array Value} {t k : Nat} (h : w.heap[k]? = some (.cells cs t (0, 0))) (hk : Kept w w1 (fun k => B ≤ k ∧ k < N ∧ Typed w k)) (ht : t ∉ [3, 111, 42, 103] := by decide) : w1.heap[k]? = some (.cells cs t (0, 0)) := blk_kept h hk (fun hh => ty_ h ht hh.2.2)
theorem VP.kept (h : VP w g E B N s p v o) (hk : Kept w w1 (fun k => B' ≤ k ∧ k < N' ∧ Typed w k)) (hd : N ≤ B' ∨ N' ≤ B) : VP w1 g E B N s p v o := ⟨keepB h.a hk, h.O.kept hk (fun k h1 h2 h3 => by omega), h.hBN⟩
theorem VP.le (h : VP w g E B N s p v o) : B ≤ w.heap.size := Nat.le_trans h.hBN h.O.hN
end
theorem OwnP.new {w w1 : World} {B N : Nat} {q : Pg} {s p v o : Value} (h : OwnP w1 B N q s p v o) (hB : w.heap.size ≤ B) (hb : Below w.heap.size w w1) : NewP w q (.agg (cels q s p v o)) w1 := by
  obtain ⟨⟨c, hR, _⟩, _⟩ := h
  exact ⟨hb, c, s, p, v, o, rfl, hR.lower hB⟩
end Go.Proofs.YtjkgponlahfnjaaGreat.Ex
