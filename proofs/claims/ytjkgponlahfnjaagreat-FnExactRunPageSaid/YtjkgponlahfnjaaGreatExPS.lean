/- What the reference's helpers answer, by value. -/
import Derived.Test.YtjkgponlahfnjaaGreatExBd
import Derived.Test.YtjkgponlahfnjaaGreatExCp
set_option linter.unusedVariables false
set_option linter.unusedSimpArgs false
set_option maxHeartbeats 8000000
set_option maxRecDepth 100000
namespace Go.Proofs.YtjkgponlahfnjaaGreat.Ex
open Go.RowKit Go.Proofs.YtjkgponlahfnjaaGreatW.PrintWords Go.Proofs.YtjkgponlahfnjaaGreatW.PrintLast Go.Proofs.YtjkgponlahfnjaaGreatW.PrintMore
open Go.Proofs.YtjkgponlahfnjaaGreat.QFnExactRunPage Go.Proofs.YtjkgponlahfnjaaGreat.Pure Go.Proofs.YtjkgponlahfnjaaGreat.Plain
theorem sRawV_ev (t : S38) (x y : Int) (h0 : 0 ≤ t.f0) (h1 : t.f0 ≤ 3) : Ev (fun k => spec_l03Raw.f k t.f0 t.f1 t.f2 t.f3 x y) (movedV t x y) := by
  simp only [spec_l03Raw.f]
  have main : ∀ (m : Nat) (i a b : Int), (t.f0 - i).toNat = m → 0 ≤ i → Ev (fun k => spec_l03Raw.l0 k a b i t.f0 t.f1 t.f2 t.f3) (wrap64 ((qrt m a b).1 + t.f2), wrap64 ((qrt m a b).2 + t.f3)) := by
    intro m
    induction m with
    | zero => intro i a b hm hi; exact Ev.up (by simp only [spec_l03Raw.l0, if_neg (show ¬ i < t.f0 by omega)]; exact Ev.now _)
    | succ m ih =>
      intro i a b hm hi
      have hw : wrap64 (i + 1) = i + 1 := wrap_id (by omega) (by omega)
      exact Ev.up (by simp only [spec_l03Raw.l0, if_pos (show i < t.f0 by omega), hw]; exact ih (i + 1) (wrap64 (-b)) a (by omega) (by omega))
  exact main t.f0.toNat 0 _ _ (by omega) (by omega)
theorem sJoinV_ev (a b : S38) : Ev (fun k => spec_JoinTurns.f k a.f0 a.f1 a.f2 a.f3 b.f0 b.f1 b.f2 b.f3) (joinR (joinV a b)) := by
  simp only [spec_JoinTurns.f, sTurnOk_eq, Option.bind_some]
  unfold joinV
  have no : Ev (fun k => spec_JoinTurns.j0 k true a.f0 a.f1 a.f2 a.f3 b.f0 b.f1 b.f2 b.f3) (joinR (⟨0, 0, 0, 0⟩, false)) := Ev.up (by simp only [spec_JoinTurns.j0, if_true]; exact Ev.now _)
  cases h1 : tnOk a with
  | false =>
    have h1' : turnOk a.f0 a.f1 a.f2 a.f3 = false := h1
    simp only [h1', Bool.false_eq_true, if_false, false_and]; exact no
  | true =>
    have h1' : turnOk a.f0 a.f1 a.f2 a.f3 = true := h1
    simp only [h1', if_true, true_and]
    cases h2 : tnOk b with
    | false =>
      have h2' : turnOk b.f0 b.f1 b.f2 b.f3 = false := h2
      simp only [h2', Bool.not_false, Bool.false_eq_true, if_false, false_and]; exact no
    | true =>
      have h2' : turnOk b.f0 b.f1 b.f2 b.f3 = true := h2
      simp only [h2', Bool.not_true, true_and]
      refine Ev.up ?_
      simp only [spec_JoinTurns.j0, Bool.false_eq_true, if_false, sTurnOk_eq, Option.bind_some]
      have hq := tn_q h2
      refine Ev.bind (sRawV_ev b a.f2 a.f3 hq.1 hq.2) ?_
      cases h3 : tnOk (joinT a b) with
      | false =>
        have h3' : turnOk (Int.tmod (wrap64 (a.f0 + b.f0)) 4) (wrap64 (a.f1 * b.f1)) (movedV b a.f2 a.f3).1 (movedV b a.f2 a.f3).2 = false := h3
        simp only [h3', Bool.false_eq_true, if_false]; exact Ev.now _
      | true =>
        have h3' : turnOk (Int.tmod (wrap64 (a.f0 + b.f0)) 4) (wrap64 (a.f1 * b.f1)) (movedV b a.f2 a.f3).1 (movedV b a.f2 a.f3).2 = true := h3
        simp only [h3', if_true]; exact Ev.now _
end Go.Proofs.YtjkgponlahfnjaaGreat.Ex
namespace Go.Proofs.YtjkgponlahfnjaaGreat.Ex
open Go.RowKit Go.Proofs.YtjkgponlahfnjaaGreatW.PrintWords Go.Proofs.YtjkgponlahfnjaaGreatW.PrintLast Go.Proofs.YtjkgponlahfnjaaGreatW.PrintMore
open Go.Proofs.YtjkgponlahfnjaaGreat.QFnExactRunPage Go.Proofs.YtjkgponlahfnjaaGreat.Pure Go.Proofs.YtjkgponlahfnjaaGreat.Plain
attribute [local go_sem] Tryz.underlying46 Tryz.underlying42 Tryz.underlying38 Tryz.underlying111 Tryz.underlying40 Tryz.underlying103
theorem sCopy_eq (l : List Int) (h : l.length ≤ 2000000) : spec_l05Copy.f l = some l := by
  have c : l.length < 17592186044416 := by omega
  simp [spec_l05Copy.f, c]
theorem sGr_eq (st : List Int) (p q r s : Int) (l : List S111) (g t u v x : Int) (hs : st.length ≤ 2000000) (hl : l.length ≤ 2000000) : spec_l07Graphics.f st p q r s l g t u v x = some (st, p, q, r, s, l, g, t, u, v, x) := by
  have c : l.length < 8796093022208 := by omega
  simp [spec_l07Graphics.f, sCopy_eq st hs, c]
theorem sShape_eq (l : List S111) (g t u v x : Int) (hl : l.length ≤ 2000000) : spec_l07Shape.f l g t u v x = some (l, g, t, u, v, x) := by
  have c : l.length < 8796093022208 := by omega
  simp [spec_l07Shape.f, c]
theorem C103 {w : World} {ad : Addr} {n j : Nat} {xs : List S103} (h : Kd.C k103 w (some ad) n xs) (hj : j < n) : ∃ A0 C0, (∀ y ∈ l6 (ad.add (j * 6)) (rd_T103 xs (j : Int)) (.slice A0 (rd_T103 xs (j : Int)).f0.length C0), w.cell? y.1 = some y.2) ∧ (rd_T103 xs (j : Int)).f0.length ≤ C0 ∧ Kd.C k111 w A0 (rd_T103 xs (j : Int)).f0.length (rd_T103 xs (j : Int)).f0 := by
  obtain ⟨ad', c, e, _, hK, hc⟩ := Kd.C_get h z103 (j : Int) (by omega) (by omega)
  obtain rfl := Option.some.inj e
  obtain ⟨A0, C0, rfl, h1, h2⟩ := k103_open hK
  exact ⟨A0, C0, l6_of hc, h1, h2⟩
theorem scopy_c {w : World} {q : Pg} {s p v o : Value} (h : RdP w q s p v o) (hn : pgN 1048576 q) : Calls Tryz.prog 25 #[.agg (cels q s p v o)] w (fun e w' => ∃ x, e = .returned x ∧ NewP w q x w') := by
  obtain ⟨⟨st, ⟨t0, t1, t2, t3⟩, pa, gr, ⟨x0, y0, x1, y1⟩⟩, sv, ob⟩ := q
  obtain ⟨⟨sA, sC, rfl, hs, Hs⟩, ⟨pA, pC, rfl, hp, Hp⟩, ⟨vA, vC, rfl, hv, Hv⟩, ⟨oA, oC, rfl, ho, Ho⟩⟩ := h
  obtain ⟨n1, n2, n3, n4, n5, n6⟩ := hn
  dsimp only at hs hp hv ho Hs Hp Hv Ho n1 n2 n3 n4 n5 n6
  simp only [cels]
  have HB := aM (Below.refl w.heap.size w)
  go_enter Tryz.func25, Tryz.ntmps25
  go_wp2_with (first | ((with_reducible refine gD 1 ?_); refine bxE #[.slice sA st.length sC, .int .i64 t0, .int .i64 t1, .int .i64 t2, .int .i64 t3, .slice pA pa.length pC, .int .i64 gr, .int .i64 x0, .int .i64 y0, .int .i64 x1, .int .i64 y1, .slice vA sv.length vC, .slice oA ob.length oC] 46 ?_; intro d5 hg w3 b1 hb; replace HB := hB hb; clear hb hg) | ((with_reducible refine gD 2 ?_); refine bxE #[.slice none 0 0, .int .i64 0, .int .i64 0, .int .i64 0, .int .i64 0, .slice none 0 0, .int .i64 0, .int .i64 0, .int .i64 0, .int .i64 0, .int .i64 0, .slice none 0 0, .slice none 0 0] 46 ?_; intro d6 hg w4 b8 hb; have hg6 := (gE hg).out; have e0 := nL_ d5 hg; have e1 := nG_ d5 hg; replace b1 := kB_ d5 hb; replace HB := hB hb; clear hb hg; have hnb5 := nP e0 e1; have hz6 := cz13 b1) | ((with_reducible refine gC 67 ?_); refine cM (some 8) Tryz.func67 (spec_l07Graphics.calls _ _ st t0 t1 t2 t3 _ _ pa gr x0 y0 x1 y1 _ _ _ _ _ _ _ _ _ _ _ _ (cC ⟨Hs⟩ HB) hs (cC ⟨Hp⟩ HB) hp (sGr_eq st t0 t1 t2 t3 pa gr x0 y0 x1 y1 (by omega) (by omega))) ?_; rintro e w7 ⟨r, r5, rfl, hr, hr5, hb⟩; refine ⟨_, rfl, ?_⟩; obtain ⟨c, hR⟩ := Rw.fresh hr hr5 hb (Kd.S_nil k103 103 _ _ _) (Below.refl _ _); replace hR := hR.lower HB.out.size; replace b1 := kB_ d5 hb; replace b8 := kB_ d6 hb; replace HB := hB hb; clear hb; obtain ⟨sB, sD, rfl⟩ := Kd.R_slice hr; obtain ⟨pB, pD, rfl⟩ := Kd.R_slice hr5; clear hr hr5) | ((with_reducible refine gD 3 ?_); refine bxE #[.slice none 0 0, .int .i64 0, .int .i64 0, .int .i64 0, .int .i64 0, .slice none 0 0, .int .i64 0, .int .i64 0, .int .i64 0, .int .i64 0, .int .i64 0, .slice none 0 0, .slice none 0 0] 46 ?_; intro d2 hg w8 a2 hb; have hg2 := (gE hg).out; have d0 := nL_ d5 hg; have d1 := nG_ d5 hg; have e6 := nL_ d6 hg; have e7 := nG_ d6 hg; replace hR := hR.below hb; replace b1 := kB_ d5 hb; replace b8 := kB_ d6 hb; replace HB := hB hb; clear hb hg; have hnb11 := nP d1 d0; have hnb12 := nP e7 e6; have hz13 := cz13 a2))
  clear hnb11 hnb12 hz13 hnb5 hz6
  go_loopg [4] sv.length (fun kq vv w' => ∃ (j : Nat) (c : Nat → Nat) (pv : Value), vv = .int .i64 (j : Int) ∧ Aside0 (kq + j = sv.length) ∧ Aside0 (Below w.heap.size w w') ∧ Aside0 (Rw w' w.heap.size c (.slice sB st.length sD) (.slice pB pa.length pD) pv (.slice none 0 0) st pa (sv.take j) []) ∧ Aside0 (w'.heap[d5]? = some (.cells #[.slice sA st.length sC, .int .i64 t0, .int .i64 t1, .int .i64 t2, .int .i64 t3, .slice pA pa.length pC, .int .i64 gr, .int .i64 x0, .int .i64 y0, .int .i64 x1, .int .i64 y1, .slice vA sv.length vC, .slice oA ob.length oC] 46 (0, 0))) ∧ Aside0 (w'.heap[d6]? = some (.cells #[.slice none 0 0, .int .i64 0, .int .i64 0, .int .i64 0, .int .i64 0, .slice none 0 0, .int .i64 0, .int .i64 0, .int .i64 0, .int .i64 0, .int .i64 0, .slice none 0 0, .slice none 0 0] 46 (0, 0))) ∧ Aside0 (w'.heap[d2]? = some (.cells #[.slice sB st.length sD, .int .i64 t0, .int .i64 t1, .int .i64 t2, .int .i64 t3, .slice pB pa.length pD, .int .i64 gr, .int .i64 x0, .int .i64 y0, .int .i64 x1, .int .i64 y1, pv, .slice none 0 0] 46 (0, 0))))
  case atStart =>
    refine ⟨0, c, .slice none 0 0, rfl, ⟨by omega⟩, ⟨?_⟩, ⟨?_⟩, ⟨kS⟩, ⟨kS⟩, ⟨kR a2⟩⟩
    · repeat (first | (with_reducible exact HB.out) | (with_reducible refine Below.setCell ?_ hg2 _))
    · refine hR.on (Alien.one a2) (?_ : OnL [d2] w8 _)
      repeat (first | (with_reducible exact OnL_refl _ _) | (with_reducible refine OnL_set ?_ _ _ (by simp)))
  case round =>
    obtain ⟨j, c, pv, rfl, hj, HB, hR, b1, b8, a2⟩ := hrel
    have hnb := nP d1 d0
    have hnb2 := nP e7 e6
    have hc1 := cg11 b1
    by_cases hj4 : j < sv.length
    · obtain ⟨ad, rfl⟩ : ∃ ad, vA = some ad := by
        obtain ⟨ad, _, e, _⟩ := Kd.C_get Hv z42 (j : Int) (by omega) (by omega)
        exact ⟨ad, e⟩
      obtain ⟨A0, C0, A5, C5, hcs, c0, H0, c5, H5⟩ := C42 Hv hj4
      have hxs := n4 _ (show rd_T42 sv (j : Int) ∈ sv by simp only [rd_T42, Int.toNat_natCast, List.getD_eq_getElem?_getD, List.getElem?_eq_getElem hj4, Option.getD_some]; exact List.getElem_mem hj4)
      have hMj : sv.take (j + 1) = sv.take j ++ [rd_T42 sv (j : Int)] := by
        rw [List.take_succ_eq_append_getElem hj4]
        simp [rd_T42, List.getD_eq_getElem?_getD, hj4]
      replace hMj := aM hMj
      replace hcs := fun y hy => (HB.out.cell (World.block_lt_of_cell? _ _ (hcs y hy))).trans (hcs y hy)
      generalize rd_T42 sv (j : Int) = x at hcs c0 H0 c5 H5 hxs hMj
      have hi2 : IntKind.i64.wrap ((j : Int) + 1) = (j : Int) + 1 := by rw [i64_w]; exact wrap_id (by omega) (by omega)
      obtain ⟨g0, ⟨u0, u1, u2, u3⟩, g5, g6, ⟨g7, g8, g9, h1⟩⟩ := x
      dsimp only at c0 H0 c5 H5 hxs
      have hBr := HB.out.size
      try go_wp2
      refine sta (a := d2) (w0 := wr) (lk := []) (B := w.heap.size) 12 [9, 11] ((⟨d5, 11, none⟩, .slice (some ad) sv.length vC) :: l11 (ad.add (j * 11)) ⟨g0, ⟨u0, u1, u2, u3⟩, g5, g6, ⟨g7, g8, g9, h1⟩⟩ (.slice A0 g0.length C0) (.slice A5 g5.length C5)) a2 (List.forall_mem_cons.2 ⟨hc1, hcs⟩) ⟨Fr.refl _ _ _⟩ (fun w6 hb6 F hHeld => ?_)
      refine pV 0 ?_
      refine pV 2 ?_
      refine pV 4 ?_
      refine tV 1 ?_
      refine tV 3 ?_
      refine pV 5 ?_
      refine tV 6 ?_
      have hBel : Below w.heap.size w w6 := HB.out.trans F.out.bl
      refine oV 7 (fun K hK => ?_)
      refine cV Tryz.func67 (spec_l07Graphics.calls A0 C0 g0 u0 u1 u2 u3 A5 C5 g5 g6 g7 g8 g9 h1 _ _ _ _ _ _ _ _ _ _ _ w6 (Kd.C_below H0 hBel) c0 (Kd.C_below H5 hBel) c5 (sGr_eq g0 u0 u1 u2 u3 g5 g6 g7 g8 g9 h1 (by omega) (by omega))) ?_
      rintro e w7 ⟨r, r5, rfl, hr, hr5, hb⟩
      obtain ⟨rA, rC, rfl⟩ := Kd.R_slice hr
      obtain ⟨qA, qC, rfl⟩ := Kd.R_slice hr5
      refine ⟨_, rfl, ?_⟩
      have hd := ((hR.out.below hb6).dye 4).below hb
      have h4 := Kd.R_lower (Kd.R_mono (Kd.R_bound hr) (fun k hk => tint_new (c := c) (i := 4) hk.2.1)) hBel.size
      have h5 := Kd.R_lower (Kd.R_mono (Kd.R_bound hr5) (fun k hk => tint_new (c := c) (i := 4) hk.2.1)) hBel.size
      have b1' := blk_below (blk_below b1.out hb6) hb
      have b8' := blk_below (blk_below b8.out hb6) hb
      refine hx hK (hHeld.below hb) (fun hHeld => ?_)
      clear hK K
      refine oV 8 (fun K hK => ?_)
      refine aV hK (hHeld.alloc _) (fun hHeld2 => ?_)
      clear hK K hHeld2
      refine lV 9 (fun K hK => ?_)
      refine Rw.appV (x := ⟨g0, ⟨u0, u1, u2, u3⟩, g5, g6, ⟨g7, g8, g9, h1⟩⟩) hd h4 h5 (.tmp 18) (.tmp 25) (below_then hBel hBel.size hb) (Nat.le_trans hBel.size hb.size) (by rfl) rfl Tryz.underlying43 info42 rfl rfl (by rw [List.length_take]; omega) (fun xB xN xD w8 hR3 hb8 ht => ?_)
      obtain ⟨c', hR8⟩ := hR3
      rw [← hMj.out] at hR8
      replace a2 := aM (ht _ _ _ hHeld.1 (by decide))
      replace b1 := aM (ht _ _ _ b1' (by decide))
      replace b8 := aM (ht _ _ _ b8' (by decide))
      refine hy hK ?_
      clear hK K
      refine pV 10 ?_
      refine sV 11 ?_
      refine done_ (by kernel_rfl) ?_
      try go_wp2
      go_roundg (sv.length - (j + 1))
      case measure => have := hj.out; omega
      case rel => exact ⟨j + 1, c', .slice xB xN xD, by simp, ⟨by omega⟩, ⟨hb8.setCell hg2 _⟩, ⟨hR8.on (Alien.one a2) (OnL_set (OnL_refl _ _) _ _ (by simp))⟩, ⟨kS⟩, ⟨kS⟩, ⟨kR a2⟩⟩
    · have hj5 : j = sv.length := by have := hj.out; omega
      subst hj5
      rw [List.take_length] at hR
      obtain ⟨vB, vD, rfl⟩ := Kd.S_slice hR.out.hv
      have hz13 := cz13 a2
      go_wp2
      go_loopg [5] ob.length (fun kq vv w' => ∃ (j : Nat) (c : Nat → Nat) (pv : Value), vv = .int .i64 (j : Int) ∧ Aside0 (kq + j = ob.length) ∧ Aside0 (Below w.heap.size w w') ∧ Aside0 (Rw w' w.heap.size c (.slice sB st.length sD) (.slice pB pa.length pD) (.slice vB sv.length vD) pv st pa sv (ob.take j)) ∧ Aside0 (w'.heap[d5]? = some (.cells #[.slice sA st.length sC, .int .i64 t0, .int .i64 t1, .int .i64 t2, .int .i64 t3, .slice pA pa.length pC, .int .i64 gr, .int .i64 x0, .int .i64 y0, .int .i64 x1, .int .i64 y1, .slice vA sv.length vC, .slice oA ob.length oC] 46 (0, 0))) ∧ Aside0 (w'.heap[d6]? = some (.cells #[.slice none 0 0, .int .i64 0, .int .i64 0, .int .i64 0, .int .i64 0, .slice none 0 0, .int .i64 0, .int .i64 0, .int .i64 0, .int .i64 0, .int .i64 0, .slice none 0 0, .slice none 0 0] 46 (0, 0))) ∧ Aside0 (w'.heap[d2]? = some (.cells #[.slice sB st.length sD, .int .i64 t0, .int .i64 t1, .int .i64 t2, .int .i64 t3, .slice pB pa.length pD, .int .i64 gr, .int .i64 x0, .int .i64 y0, .int .i64 x1, .int .i64 y1, .slice vB sv.length vD, pv] 46 (0, 0))))
      case atStart => exact ⟨0, c, .slice none 0 0, rfl, ⟨by omega⟩, HB, hR, b1, b8, a2⟩
      case round =>
        clear hj hnb hnb2 hc1 hz13 hR HB b1 b8 a2 hj4
        obtain ⟨j, c, pv, rfl, hj, HB, hR, b1, b8, a2⟩ := hrel
        have hnb := nP d1 d0
        have hnb2 := nP e7 e6
        have hc1 := cg12 b1
        by_cases hj4 : j < ob.length
        · obtain ⟨ad, rfl⟩ : ∃ ad, oA = some ad := by
            obtain ⟨ad, _, e, _⟩ := Kd.C_get Ho z103 (j : Int) (by omega) (by omega)
            exact ⟨ad, e⟩
          obtain ⟨A0, C0, hcs, c0, H0⟩ := C103 Ho hj4
          have hxs := n6 _ (show rd_T103 ob (j : Int) ∈ ob by simp only [rd_T103, Int.toNat_natCast, List.getD_eq_getElem?_getD, List.getElem?_eq_getElem hj4, Option.getD_some]; exact List.getElem_mem hj4)
          have hMj : ob.take (j + 1) = ob.take j ++ [rd_T103 ob (j : Int)] := by
            rw [List.take_succ_eq_append_getElem hj4]
            simp [rd_T103, List.getD_eq_getElem?_getD, hj4]
          replace hMj := aM hMj
          replace hcs := fun y hy => (HB.out.cell (World.block_lt_of_cell? _ _ (hcs y hy))).trans (hcs y hy)
          generalize rd_T103 ob (j : Int) = x at hcs c0 H0 hxs hMj
          have hi2 : IntKind.i64.wrap ((j : Int) + 1) = (j : Int) + 1 := by rw [i64_w]; exact wrap_id (by omega) (by omega)
          obtain ⟨g0, g6, ⟨g7, g8, g9, h1⟩⟩ := x
          dsimp only at c0 H0 hxs
          have hBr := HB.out.size
          try go_wp2
          refine sta (a := d2) (w0 := wr) (lk := []) (B := w.heap.size) 12 [9, 11] ((⟨d5, 12, none⟩, .slice (some ad) ob.length oC) :: l6 (ad.add (j * 6)) ⟨g0, g6, ⟨g7, g8, g9, h1⟩⟩ (.slice A0 g0.length C0)) a2 (List.forall_mem_cons.2 ⟨hc1, hcs⟩) ⟨Fr.refl _ _ _⟩ (fun w6 hb6 F hHeld => ?_)
          refine pV 0 ?_
          refine pV 2 ?_
          refine pV 4 ?_
          refine tV 1 ?_
          refine tV 3 ?_
          refine pV 5 ?_
          refine tV 6 ?_
          have hBel : Below w.heap.size w w6 := HB.out.trans F.out.bl
          refine oV 7 (fun K hK => ?_)
          refine cV Tryz.func68 (spec_l07Shape.calls A0 C0 g0 g6 g7 g8 g9 h1 _ _ _ _ _ _ w6 (Kd.C_below H0 hBel) c0 (sShape_eq g0 g6 g7 g8 g9 h1 (by omega))) ?_
          rintro e w7 ⟨r, rfl, hr, hb⟩
          obtain ⟨rA, rC, rfl⟩ := Kd.R_slice hr
          refine ⟨_, rfl, ?_⟩
          have hd := ((hR.out.below hb6).dye 4).below hb
          have h4 := Kd.R_lower (Kd.R_mono (Kd.R_bound hr) (fun k hk => tint_new (c := c) (i := 4) hk.2.1)) hBel.size
          have b1' := blk_below (blk_below b1.out hb6) hb
          have b8' := blk_below (blk_below b8.out hb6) hb
          refine hx hK (hHeld.below hb) (fun hHeld => ?_)
          clear hK K
          refine oV 8 (fun K hK => ?_)
          refine aV hK (hHeld.alloc _) (fun hHeld2 => ?_)
          clear hK K hHeld2
          refine lV 9 (fun K hK => ?_)
          refine Rw.appO (f := g6) (bx := ⟨g7, g8, g9, h1⟩) hd h4 (.tmp 36) (.tmp 43) (below_then hBel hBel.size hb) (Nat.le_trans hBel.size hb.size) (by rfl) rfl Tryz.underlying44 info103 rfl rfl (by rw [List.length_take]; omega) (fun xB xN xD w8 hR3 hb8 ht => ?_)
          obtain ⟨c', hR8⟩ := hR3
          rw [← hMj.out] at hR8
          replace a2 := aM (ht _ _ _ hHeld.1 (by decide))
          replace b1 := aM (ht _ _ _ b1' (by decide))
          replace b8 := aM (ht _ _ _ b8' (by decide))
          refine hy hK ?_
          clear hK K
          refine pV 10 ?_
          refine sV 11 ?_
          refine done_ (by kernel_rfl) ?_
          try go_wp2
          go_roundg (ob.length - (j + 1))
          case measure => have := hj.out; omega
          case rel => exact ⟨j + 1, c', .slice xB xN xD, by simp, ⟨by omega⟩, ⟨hb8.setCell hg2 _⟩, ⟨hR8.on (Alien.one a2) (OnL_set (OnL_refl _ _) _ _ (by simp))⟩, ⟨kS⟩, ⟨kS⟩, ⟨kR a2⟩⟩
        · have hj5 : j = ob.length := by have := hj.out; omega
          subst hj5
          rw [List.take_length] at hR
          obtain ⟨oB, oD, rfl⟩ := Kd.S_slice hR.out.ho
          have hz13 := cz13 a2
          have hz14 := cz13 b8
          go_wp2
          refine bodyPost_ret (results_cell_row rfl _ _ d6 46 #[.slice sB st.length sD, .int .i64 t0, .int .i64 t1, .int .i64 t2, .int .i64 t3, .slice pB pa.length pD, .int .i64 gr, .int .i64 x0, .int .i64 y0, .int .i64 x1, .int .i64 y1, .slice vB sv.length vD, .slice oB ob.length oD] (0, 0) _ rfl kS Tryz.underlying46 rfl (by kernel_rfl)) rfl ?_
          exact ⟨_, rfl, NewP.mk (q := ⟨⟨st, ⟨t0, t1, t2, t3⟩, pa, gr, ⟨x0, y0, x1, y1⟩⟩, sv, ob⟩) HB.out hR.out b8 hg6⟩
end Go.Proofs.YtjkgponlahfnjaaGreat.Ex
namespace Go.Proofs.YtjkgponlahfnjaaGreat.Ex
open Go.RowKit Go.Proofs.YtjkgponlahfnjaaGreatW.PrintWords Go.Proofs.YtjkgponlahfnjaaGreatW.PrintLast Go.Proofs.YtjkgponlahfnjaaGreatW.PrintMore
open Go.Proofs.YtjkgponlahfnjaaGreat.QFnExactRunPage Go.Proofs.YtjkgponlahfnjaaGreat.Pure Go.Proofs.YtjkgponlahfnjaaGreat.Plain
attribute [local go_sem] Tryz.underlying46 Tryz.underlying42 Tryz.underlying38 Tryz.underlying111 Tryz.underlying40 Tryz.underlying103
theorem sd_new {nm : ByteArray} {A : Option Addr} {C B a : Nat} {P : Pg} {w : World} (h : Pre w B a P) (hnm : nm.toList = [110, 101, 119]) : Calls Tryz.prog 31 #[.pointer (some ⟨a, 0, none⟩), .string nm, .slice A 0 C] w (Pt w B a (paint P nm [])) := by
  obtain ⟨⟨st, ⟨t0, t1, t2, t3⟩, pa, gr, ⟨x0, y0, x1, y1⟩⟩, sv, ob⟩ := P
  obtain ⟨⟨c, s, p, v, o, hR, hb⟩, ha, hB, hq, hn⟩ := h
  dsimp only at hR hb hq
  have a2 := aM hb
  have F := aM (Fr.refl [a] B w)
  replace hR := aM hR
  clear hb
  go_enter Tryz.func31, Tryz.ntmps31
  have hz := cz13 a2
  go_wp2_with (first | ((with_reducible refine gate_dst (N := 17) rfl ?_); refine litQ (xs := []) (Reps.none _ _) (fun lA lC w4 hL hb4 => ?_) (N := 17) (hN := rfl); obtain ⟨c', hR4, hb5⟩ := litN hR.out a2 hB hL hb4 (by repeat (first | (with_reducible exact Fr.refl _ _ _) | (with_reducible refine Fr.set ?_ _ _ (by simp) ha) | (with_reducible refine Fr.drewN ?_ _) | (with_reducible refine Fr.drew ?_))); replace a2 := kB_ a hb4; clear hL hb4; have hz4 := cz13 a2))
  go_ret
  exact fin_ (q := ⟨⟨st, ⟨t0, t1, t2, t3⟩, [], gr, ⟨x0, y0, x1, y1⟩⟩, sv, ob⟩) (by simp [paint, hnm]) hR4 hb5 a2
theorem sd_moveto {nm : ByteArray} {ad : Addr} {x y : Int} {C B a : Nat} {P : Pg} {w : World} (h : Pre w B a P) (hl : LdL w ad [x, y]) (hnm : nm.toList = [109, 111, 118, 101, 116, 111]) : Calls Tryz.prog 31 #[.pointer (some ⟨a, 0, none⟩), .string nm, .slice (some ad) 2 C] w (Pt w B a (paint P nm [x, y])) := by
  obtain ⟨⟨st, ⟨t0, t1, t2, t3⟩, pa, gr, ⟨x0, y0, x1, y1⟩⟩, sv, ob⟩ := P
  obtain ⟨⟨c, s, p, v, o, hR, hb⟩, ha, hB, hq, hn⟩ := h
  dsimp only at hR hb hq
  have a2 := aM hb
  have F := aM (Fr.refl [a] B w)
  replace hR := aM hR
  clear hb
  obtain ⟨kk, hmv⟩ := sRawV_ev ⟨t0, t1, t2, t3⟩ x y hq.1 hq.2
  replace hmv := hmv kk (Nat.le_refl _)
  go_enter Tryz.func31, Tryz.ntmps31
  try go_wp2
  refine sta 17 [16] _ a2 hl F (fun w0 hb0 F hHeld => ?_)
  refine pV 0 ?_
  refine pV 1 ?_
  refine pV 2 ?_
  refine pV 3 ?_
  refine pV 5 ?_
  refine pV 6 ?_
  refine pV 8 ?_
  refine pV 9 ?_
  refine tV 4 ?_
  refine tV 7 ?_
  refine tV 10 ?_
  refine pV 11 ?_
  refine qV 12 Tryz.func71 (spec_l03Raw.calls kk t0 t1 t2 t3 x y _ _ _ hmv) F hB hHeld (fun w1 hb F hHeld => ?_)
  refine oV 13 (fun K hK => ?_)
  refine litP (pM _ _) (fun pA pC w2 hp hb => ?_)
  obtain ⟨c, hR⟩ := (hR.out.on (Alien.one a2) F.out.on).newP hb (Nat.le_trans hB F.out.on.1) hp
  replace F := aM (F.out.below hB hb)
  refine hx hK (hHeld.below hb) (fun hHeld => ?_)
  clear hK K hb hp
  refine pV 14 ?_
  refine pV 15 ?_
  replace a2 := aM hHeld.1
  refine sV 16 ?_
  refine done_ (by kernel_rfl) ?_
  try go_wp2
  go_ret
  exact fin_ (q := ⟨⟨st, ⟨t0, t1, t2, t3⟩, [mvP ⟨t0, t1, t2, t3⟩ x y], gr, ⟨x0, y0, x1, y1⟩⟩, sv, ob⟩) (by simp [paint, hnm, rd, mvP]) hR F.out.bl a2
theorem sd_lineto {nm : ByteArray} {ad : Addr} {x y : Int} {C B a : Nat} {P : Pg} {w : World} (h : Pre w B a P) (hl : LdL w ad [x, y]) (hnm : nm.toList = [108, 105, 110, 101, 116, 111]) : Calls Tryz.prog 31 #[.pointer (some ⟨a, 0, none⟩), .string nm, .slice (some ad) 2 C] w (Pt w B a (paint P nm [x, y])) := by
  obtain ⟨⟨st, ⟨t0, t1, t2, t3⟩, pa, gr, ⟨x0, y0, x1, y1⟩⟩, sv, ob⟩ := P
  obtain ⟨⟨c, s, p, v, o, hR, hb⟩, ha, hB, hq, hn⟩ := h
  dsimp only at hR hb hq
  have a2 := aM hb
  have F := aM (Fr.refl [a] B w)
  replace hR := aM hR
  clear hb
  obtain ⟨pA, pC, rfl⟩ := Kd.R_slice hR.out.hp
  go_enter Tryz.func31, Tryz.ntmps31
  have hz := cg5 a2
  by_cases e0 : pa = []
  · subst e0
    try go_wp2
    go_ret
    exact fno_ (by simp [paint, hnm]) F
  have e1 : pa.length ≠ 0 := fun h => e0 (List.eq_nil_of_length_eq_zero h)
  have e2 : ((pa.length : Int) == 0) = false := beq_eq_false_iff_ne.mpr (by omega)
  obtain ⟨kk, hmv⟩ := sRawV_ev ⟨t0, t1, t2, t3⟩ x y hq.1 hq.2
  replace hmv := hmv kk (Nat.le_refl _)
  try go_wp2
  refine sta 22 [18, 21] _ a2 hl F (fun w0 hb0 F hHeld => ?_)
  refine pV 0 ?_
  refine pV 1 ?_
  refine pV 2 ?_
  refine pV 3 ?_
  refine pV 5 ?_
  refine pV 6 ?_
  refine pV 7 ?_
  refine pV 9 ?_
  refine pV 10 ?_
  refine pV 12 ?_
  refine pV 13 ?_
  refine tV 4 ?_
  refine tV 8 ?_
  refine tV 11 ?_
  refine tV 14 ?_
  refine pV 15 ?_
  refine qV 16 Tryz.func71 (spec_l03Raw.calls kk t0 t1 t2 t3 x y _ _ _ hmv) F hB hHeld (fun w1 hb F hHeld => ?_)
  refine oV 17 (fun K hK => ?_)
  refine aV hK (hHeld.alloc _) (fun hHeld2 => ?_)
  clear hK K hHeld2
  refine lV 18 (fun K hK => ?_)
  refine (hR.out.on (Alien.one a2) F.out.on).appP (.tmp 50) (.tmp 63) _ _ F.out.bl (Nat.le_trans hB F.out.on.1) (by rfl) rfl Tryz.underlying39 info111 rfl rfl (by have := hn.2.1; simp only at this; omega) (fun pB pN pD w3 hR3 hb ht => ?_)
  obtain ⟨c, hR, _⟩ := hR3
  replace a2 := aM (ht _ _ _ hHeld.1 (by decide))
  refine hy hK ?_
  clear hK K
  refine pV 19 ?_
  refine pV 20 ?_
  refine sV 21 ?_
  refine done_ (by kernel_rfl) ?_
  try go_wp2
  go_ret
  exact fin_ (q := ⟨⟨st, ⟨t0, t1, t2, t3⟩, pa ++ [mvP ⟨t0, t1, t2, t3⟩ x y], gr, ⟨x0, y0, x1, y1⟩⟩, sv, ob⟩) (by simp [paint, hnm, rd, mvP, e1]) hR hb a2
theorem sd_fill {nm : ByteArray} {A : Option Addr} {C B a : Nat} {P : Pg} {w : World} (h : Pre w B a P) (hnm : nm.toList = [102, 105, 108, 108]) : Calls Tryz.prog 31 #[.pointer (some ⟨a, 0, none⟩), .string nm, .slice A 0 C] w (Pt w B a (paint P nm [])) := by
  obtain ⟨⟨st, ⟨t0, t1, t2, t3⟩, pa, gr, ⟨x0, y0, x1, y1⟩⟩, sv, ob⟩ := P
  obtain ⟨⟨c, s, p, v, o, hR, hb⟩, ha, hB, hq, hn⟩ := h
  dsimp only at hR hb hq
  have a2 := aM hb
  have F := aM (Fr.refl [a] B w)
  replace hR := aM hR
  clear hb
  obtain ⟨pA, pC, rfl⟩ := Kd.R_slice hR.out.hp
  obtain ⟨oA, oC, rfl⟩ := Kd.S_slice hR.out.ho
  go_enter Tryz.func31, Tryz.ntmps31
  have hz := cg5 a2
  by_cases e0 : (pa.length : Int) < 3
  · have e1 := decide_eq_true e0
    try go_wp2
    go_ret
    exact fno_ (by simp [paint, hnm]; omega) F
  have e1 := decide_eq_false e0
  try go_wp2
  refine sta 23 [19, 22] [] a2 (by simp) F (fun w0 hb0 F hHeld => ?_)
  refine pV 0 ?_
  refine pV 1 ?_
  refine pV 2 ?_
  refine pV 3 ?_
  refine pV 5 ?_
  refine pV 6 ?_
  refine pV 7 ?_
  refine pV 9 ?_
  refine pV 10 ?_
  refine pV 11 ?_
  refine pV 13 ?_
  refine pV 14 ?_
  refine pV 15 ?_
  refine tV 4 ?_
  refine tV 8 ?_
  refine tV 12 ?_
  refine tV 16 ?_
  refine pV 17 ?_
  have hd := hR.out.below hb0
  obtain ⟨c4, hd4, h4⟩ := hd.mvP
  refine oV 18 (fun K hK => ?_)
  refine aV hK (hHeld.alloc _) (fun hHeld2 => ?_)
  clear hK K hHeld2
  refine lV 19 (fun K hK => ?_)
  refine Rw.appO (f := gr) (bx := ⟨x0, y0, x1, y1⟩) hd4 h4 (.tmp 164) (.tmp 178) F.out.bl (Nat.le_trans hB F.out.on.1) (by rfl) rfl Tryz.underlying44 info103 rfl rfl (by have := hn.2.2.2.2.1; simp only at this; omega) (fun pB pN pD w3 hR3 hb ht => ?_)
  obtain ⟨c, hR⟩ := hR3
  replace a2 := aM (ht _ _ _ hHeld.1 (by decide))
  refine hy hK ?_
  clear hK K
  refine pV 20 ?_
  refine pV 21 ?_
  have a0 := a2
  refine sV 22 ?_
  refine done_ (by kernel_rfl) ?_
  have hz := cz13 a2
  go_wp2_with (first | ((with_reducible refine gate_dst (N := 183) rfl ?_); refine litQ (xs := []) (Reps.none _ _) (fun lA lC w4 hL hb4 => ?_) (N := 183) (hN := rfl); obtain ⟨c', hR4, hb5⟩ := litN hR a0 (Nat.le_trans hB hb.size) hL hb4 (by repeat (first | (with_reducible exact Fr.refl _ _ _) | (with_reducible refine Fr.set ?_ _ _ (by simp) ha) | (with_reducible refine Fr.drewN ?_ _) | (with_reducible refine Fr.drew ?_))); replace a2 := kB_ a hb4; clear hL hb4; have hz4 := cz13 a2))
  go_ret
  exact fin_ (q := ⟨⟨st, ⟨t0, t1, t2, t3⟩, [], gr, ⟨x0, y0, x1, y1⟩⟩, sv, ob ++ [⟨pa, gr, ⟨x0, y0, x1, y1⟩⟩]⟩) (by simp [paint, hnm]; omega) hR4 (hb.trans hb5) a2
theorem sd_clip {nm : ByteArray} {A : Option Addr} {C B a : Nat} {P : Pg} {w : World} (h : Pre w B a P) (hnm : nm.toList = [99, 108, 105, 112]) : Calls Tryz.prog 31 #[.pointer (some ⟨a, 0, none⟩), .string nm, .slice A 0 C] w (Pt w B a (paint P nm [])) := by
  obtain ⟨⟨st, ⟨t0, t1, t2, t3⟩, pa, gr, ⟨x0, y0, x1, y1⟩⟩, sv, ob⟩ := P
  obtain ⟨⟨c, s, p, v, o, hR, hb⟩, ha, hB, hq, hn⟩ := h
  dsimp only at hR hb hq
  have a2 := aM hb
  have F := aM (Fr.refl [a] B w)
  replace hR := aM hR
  clear hb
  obtain ⟨pA, pC, rfl⟩ := Kd.R_slice hR.out.hp
  go_enter Tryz.func31, Tryz.ntmps31
  have hz := cg5 a2
  by_cases e0 : pa = []
  · subst e0
    try go_wp2
    go_ret
    exact fno_ (by simp [paint, hnm]) F
  have e1 : pa.length ≠ 0 := fun h => e0 (List.eq_nil_of_length_eq_zero h)
  have e2 : ((pa.length : Int) == 0) = false := beq_eq_false_iff_ne.mpr (by omega)
  obtain ⟨k1, h1⟩ := sBoxOf_ev pa (by have := hn.2.1; simp only at this; rw [maxLen_eq]; omega)
  have h2 := sMeetBox_eq x0 y0 x1 y1 (boxOf pa).1 (boxOf pa).2.1 (boxOf pa).2.2.1 (boxOf pa).2.2.2
  replace h1 := h1 k1 (Nat.le_refl _)
  generalize hbx : boxOf pa = bx at h1 h2
  obtain ⟨b0, b1, b2, b3⟩ := bx
  generalize hmt : meet (x0, y0, x1, y1) (b0, b1, b2, b3) = mt at h2
  obtain ⟨m0, m1, m2, m3⟩ := mt
  try go_wp2
  refine sta 14 [13] [] a2 (by simp) F (fun w0 hb0 F hHeld => ?_)
  refine pV 0 ?_
  refine pV 1 ?_
  refine pV 2 ?_
  refine pV 3 ?_
  refine pV 5 ?_
  refine pV 6 ?_
  refine pV 7 ?_
  refine tV 4 ?_
  refine tV 8 ?_
  refine qV 9 Tryz.func73 (spec_BoxOf.calls k1 _ _ pa _ _ _ _ _ (Kd.R_reads' (Kd.R_below hR.out.hp hb0)).2.2 (Kd.R_reads' hR.out.hp).2.1 h1) F hB hHeld (fun w1 hb F hHeld => ?_)
  refine qV 10 Tryz.func72 (spec_MeetBox.calls x0 y0 x1 y1 _ _ _ _ _ _ _ _ _ h2) F hB hHeld (fun w1 hb F hHeld => ?_)
  refine pV 11 ?_
  refine pV 12 ?_
  have a0 := a2
  replace a2 := aM hHeld.1
  have hR5 := hR.out.on (Alien.one a0) F.out.on
  have a5 := a2
  refine sV 13 ?_
  refine done_ (by kernel_rfl) ?_
  have hz := cz13 a2
  go_wp2_with (first | ((with_reducible refine gate_dst (N := 208) rfl ?_); refine litQ (xs := []) (Reps.none _ _) (fun lA lC w4 hL hb4 => ?_) (N := 208) (hN := rfl); obtain ⟨c', hR4, hb5⟩ := litN hR5 a5 (Nat.le_trans hB F.out.on.1) hL hb4 (by repeat (first | (with_reducible exact Fr.refl _ _ _) | (with_reducible refine Fr.set ?_ _ _ (by simp) ha) | (with_reducible refine Fr.drewN ?_ _) | (with_reducible refine Fr.drew ?_))); replace a2 := kB_ a hb4; clear hL hb4; have hz4 := cz13 a2))
  go_ret
  exact fin_ (q := ⟨⟨st, ⟨t0, t1, t2, t3⟩, [], gr, ⟨m0, m1, m2, m3⟩⟩, sv, ob⟩) (by simp [paint, hnm, e0, hbx, hmt, box4]) hR4 (F.out.bl.trans hb5) a2
theorem sd_rect {nm : ByteArray} {ad : Addr} {x y u z : Int} {C B a : Nat} {P : Pg} {w : World} (h : Pre w B a P) (hl : LdL w ad [x, y, u, z]) (hnm : nm.toList = [114, 101, 99, 116]) : Calls Tryz.prog 31 #[.pointer (some ⟨a, 0, none⟩), .string nm, .slice (some ad) 4 C] w (Pt w B a (paint P nm [x, y, u, z])) := by
  obtain ⟨⟨st, ⟨t0, t1, t2, t3⟩, pa, gr, ⟨x0, y0, x1, y1⟩⟩, sv, ob⟩ := P
  obtain ⟨⟨c, s, p, v, o, hR, hb⟩, ha, hB, hq, hn⟩ := h
  dsimp only at hR hb hq
  have a2 := aM hb
  have F := aM (Fr.refl [a] B w)
  replace hR := aM hR
  have hp : paint ⟨⟨st, ⟨t0, t1, t2, t3⟩, pa, gr, ⟨x0, y0, x1, y1⟩⟩, sv, ob⟩ nm [x, y, u, z] = if inB u 0 200 = true ∧ inB z 0 200 = true then some ⟨⟨st, ⟨t0, t1, t2, t3⟩, rectP ⟨t0, t1, t2, t3⟩ [x, y, u, z], gr, ⟨x0, y0, x1, y1⟩⟩, sv, ob⟩ else none := by simp [paint, hnm, rd]
  generalize paint ⟨⟨st, ⟨t0, t1, t2, t3⟩, pa, gr, ⟨x0, y0, x1, y1⟩⟩, sv, ob⟩ nm [x, y, u, z] = r at hp ⊢
  replace hp := aM hp
  have hl2 := hl
  simp only [LdL, ldl, List.forall_mem_cons, List.not_mem_nil, false_implies, implies_true, and_true] at hl2
  go_enter Tryz.func31, Tryz.ntmps31
  cases e1 : inB u 0 200 with
  | false =>
    go_wp2_with (first | ((with_reducible refine gC 65 ?_); refine cM (some 72) Tryz.func65 (spec_l01In.calls u 0 200 _ _ (by rw [l01In_eq, e1])) ?_; rintro e w' ⟨rfl, ⟨nd, rfl⟩⟩; refine ⟨_, rfl, ?_⟩))
    go_ret
    exact fno_ (by rw [hp.out]; simp [e1]) F
  | true =>
    cases e2 : inB z 0 200 with
    | false =>
      go_wp2_with (first | ((with_reducible refine gC 65 ?_); refine cM (some 72) Tryz.func65 (spec_l01In.calls u 0 200 _ _ (by rw [l01In_eq, e1])) ?_; rintro e w' ⟨rfl, ⟨nd, rfl⟩⟩; refine ⟨_, rfl, ?_⟩) | (go_at_call 65; (with_reducible refine (spec_l01In.calls z 0 200 _ _ (by rw [l01In_eq, e2])).mono ?_); rintro e w' ⟨rfl, ⟨nd, rfl⟩⟩))
      go_ret
      exact fno_ (by rw [hp.out]; simp [e2]) F
    | true =>
      go_wp2_with (first | ((with_reducible refine gC 65 ?_); refine cM (some 72) Tryz.func65 (spec_l01In.calls u 0 200 _ _ (by rw [l01In_eq, e1])) ?_; rintro e w' ⟨rfl, ⟨nd, rfl⟩⟩; refine ⟨_, rfl, ?_⟩) | (go_at_call 65; (with_reducible refine (spec_l01In.calls z 0 200 _ _ (by rw [l01In_eq, e2])).mono ?_); rintro e w' ⟨rfl, ⟨nd, rfl⟩⟩))
      refine sta (a := a) (w0 := w) (lk := [a]) (B := B) 46 [] _ ⟨(kS : _ = some (Obj.cells #[s, .int .i64 t0, .int .i64 t1, .int .i64 t2, .int .i64 t3, p, .int .i64 gr, .int .i64 x0, .int .i64 y0, .int .i64 x1, .int .i64 y1, v, o] 46 (0, 0)))⟩ hl ⟨?_⟩ (fun w0 hb0 F hHeld => ?_)
      · repeat (first | (with_reducible exact Fr.refl _ _ _) | (with_reducible refine Fr.drewN ?_ _))
      refine pV 0 ?_
      refine pV 1 ?_
      refine pV 3 ?_
      refine pV 4 ?_
      refine pV 7 ?_
      refine pV 8 ?_
      refine pV 10 ?_
      refine pV 11 ?_
      refine pV 14 ?_
      refine pV 15 ?_
      refine pV 18 ?_
      refine pV 19 ?_
      refine pV 21 ?_
      refine pV 22 ?_
      refine pV 25 ?_
      refine pV 26 ?_
      refine pV 28 ?_
      refine pV 29 ?_
      refine pV 33 ?_
      refine pV 34 ?_
      refine pV 36 ?_
      refine pV 37 ?_
      refine pV 39 ?_
      refine pV 40 ?_
      refine tV 2 ?_
      refine tV 5 ?_
      refine pV 6 ?_
      refine tV 9 ?_
      refine tV 12 ?_
      refine pV 13 ?_
      refine tV 16 ?_
      refine pV 17 ?_
      refine tV 20 ?_
      refine tV 23 ?_
      refine pV 24 ?_
      refine tV 27 ?_
      refine tV 30 ?_
      refine pV 31 ?_
      refine pV 32 ?_
      refine tV 35 ?_
      refine tV 38 ?_
      refine tV 41 ?_
      refine pV 42 ?_
      refine pV 43 ?_
      obtain ⟨L, hL0⟩ : ∃ L : List S111, L = [⟨x, y⟩, ⟨wrap64 (x + u), y⟩, ⟨wrap64 (x + u), wrap64 (y + z)⟩, ⟨x, wrap64 (y + z)⟩] := ⟨_, rfl⟩
      replace hL0 := aM hL0
      refine oV 44 (fun K hK => ?_)
      refine litP (Reps.c2 (k111_mkM _ _ _ (⟨x, y⟩ : S111)) (Reps.c2 (k111_mkM _ _ _ (⟨wrap64 (x + u), y⟩ : S111)) (Reps.c2 (k111_mkM _ _ _ (⟨wrap64 (x + u), wrap64 (y + z)⟩ : S111)) (Reps.c2 (k111_mkM _ _ _ (⟨x, wrap64 (y + z)⟩ : S111)) (Reps.none _ _))))) (fun lA lC w4 hL hb4 => ?_)
      refine hx hK (hHeld.below hb4) (fun hHeld => ?_)
      clear hK K
      refine pV 45 ?_
      refine done_ (by kernel_rfl) ?_
      obtain ⟨hs4, F4⟩ := litF F.out hB hb4
      have a4 := aM hHeld.1
      have hL4 : L.length = 4 := by rw [hL0.out]; rfl
      rw [← hL0.out, hL4] at hL
      have hL5 := Kd.R_lower (Kd.R_mono (Kd.R_bound hL) (fun k hk => tint_new (c := c) (i := 5) (Nat.le_trans hs4 hk.2.1))) (Nat.le_trans hB hs4)
      have hR5 := (hR.out.dye 5).on (Alien.one ⟨hb⟩) F4.out.on
      have hB4 := Nat.le_trans hB F4.out.on.1
      have HB4 := aM F4.out.bl
      obtain ⟨M, hM⟩ : ∃ M : List S111, M = L.map (fun z => mvP ⟨t0, t1, t2, t3⟩ z.f0 z.f1) := ⟨_, rfl⟩
      have hM4 : M.length = 4 := by rw [hM, List.length_map, hL4]
      replace hM := aM hM
      replace hM4 := aM hM4
      replace hL4 := aM hL4
      clear a2 hHeld hR F F4 hL hb4
      generalize tint c w.heap.size 5 = c5 at hL5 hR5
      have hz := cz13 a4
      go_wp2_with (first | ((with_reducible refine gate_dst (N := 127) rfl ?_); refine litQ (xs := []) (Reps.none _ _) (fun zA zC w5 hN hb5 => ?_) (N := 127) (hN := rfl); obtain ⟨c6, hR6, hb6, hl6⟩ := litN5 hR5 a4 hB4 hN hb5 (by repeat (first | (with_reducible exact Fr.refl _ _ _) | (with_reducible refine Fr.set ?_ _ _ (by simp) ha) | (with_reducible refine Fr.drewN ?_ _) | (with_reducible refine Fr.drew ?_))); have a5 := kB_ a hb5; clear hN hb5 hz; have hz5 := cz13 a5))
      have hL6 := hl6 _ _ hL5
      clear hl6 hL5 hR5 a4 hz5
      go_loopg [9] 4 (fun kq vv w' => ∃ (j : Nat) (c5 : Nat → Nat) (pv : Value), vv = .int .i64 (j : Int) ∧ Aside0 (kq + j = 4) ∧ Aside0 (Below B w w') ∧ Aside0 (Rw w' B c5 s pv v o st (M.take j) sv ob) ∧ Aside0 (Kd.R k111 111 w' B (fun k => c5 k = 5) (.slice lA 4 lC) L) ∧ Aside0 (w'.heap[a]? = some (.cells #[s, .int .i64 t0, .int .i64 t1, .int .i64 t2, .int .i64 t3, pv, .int .i64 gr, .int .i64 x0, .int .i64 y0, .int .i64 x1, .int .i64 y1, v, o] 46 (0, 0))))
      case atStart => exact ⟨0, c6, .slice zA 0 zC, rfl, ⟨rfl⟩, ⟨(HB4.out.trans hb6).setCell ha _⟩, ⟨hR6.on (Alien.one a5) (OnL_set (OnL_refl _ _) _ _ (by simp))⟩, ⟨R_al hL6 (Alien.one a5) (by decide) (fun _ => lt4 (by decide)) (OnL_set (OnL_refl _ _) _ _ (by simp))⟩, ⟨kR a5⟩⟩
      case round =>
        clear hR6 hL6 a5 hb6
        obtain ⟨j, c5, pv, rfl, hj, HB, hR, hL, a2⟩ := hrel
        by_cases hj4 : j < 4
        · obtain ⟨la, rfl, hq0, hq1⟩ := at_T111 (Kd.R_reads' hL.out).2.2 (j : Int) (by omega) (by have := hL4.out; omega)
          simp only [Int.toNat_natCast] at hq0 hq1
          have hi0 : (0 ≤ (j : Int)) = True := eq_true (by omega)
          have hi1 : ((j : Int) < 4) = True := eq_true (by omega)
          have hi2 : IntKind.i64.wrap ((j : Int) + 1) = (j : Int) + 1 := by rw [i64_w]; exact wrap_id (by omega) (by omega)
          have hMj : M.take (j + 1) = M.take j ++ [mvP ⟨t0, t1, t2, t3⟩ (rd_T111 L (j : Int)).f0 (rd_T111 L (j : Int)).f1] := by
            have h4 := hL4.out
            rw [hM.out, ← List.map_take, ← List.map_take, List.take_succ_eq_append_getElem (by omega), List.map_append]
            simp [rd_T111, List.getD_eq_getElem?_getD, show j < L.length by omega]
          replace hMj := aM hMj
          generalize rd_T111 L (j : Int) = q at hq0 hq1 hMj
          obtain ⟨kk, hmv⟩ := sRawV_ev ⟨t0, t1, t2, t3⟩ q.f0 q.f1 hq.1 hq.2
          replace hmv := hmv kk (Nat.le_refl _)
          have hBr : B ≤ wr.heap.size := Nat.le_trans hB HB.out.size
          try go_wp2
          refine sta (w0 := wr) (lk := [a]) (B := B) 19 [15, 18] [(la.add (j * 2), .int .i64 q.f0), (⟨(la.add (j * 2)).block, (la.add (j * 2)).off + 1, none⟩, .int .i64 q.f1)] a2 (by simp [hq0, hq1]) ⟨Fr.refl _ _ _⟩ (fun w6 hb6 F hHeld => ?_)
          refine pV 0 ?_
          refine pV 1 ?_
          refine pV 2 ?_
          refine pV 3 ?_
          refine pV 5 ?_
          refine pV 6 ?_
          refine pV 7 ?_
          refine pV 9 ?_
          refine pV 10 ?_
          refine pV 11 ?_
          refine tV 4 ?_
          refine tV 8 ?_
          refine tV 12 ?_
          refine qV 13 Tryz.func71 (spec_l03Raw.calls kk t0 t1 t2 t3 q.f0 q.f1 _ _ _ hmv) F hBr hHeld (fun w7 hb F hHeld => ?_)
          refine oV 14 (fun K hK => ?_)
          refine aV hK (hHeld.alloc _) (fun hHeld2 => ?_)
          clear hK K hHeld2
          have hR7 := hR.out.on (Alien.one a2) F.out.on
          have hL7 := R_al hL.out (Alien.one a2) (by decide) (fun _ => lt4 (by decide)) F.out.on
          refine lV 15 (fun K hK => ?_)
          refine hR7.appP (.tmp 138) (.tmp 148) _ _ F.out.bl (Nat.le_trans hBr F.out.on.1) (by rfl) rfl Tryz.underlying39 info111 rfl rfl (by have := hM4.out; rw [List.length_take]; omega) (fun pB pN pD w8 hR3 hb8 ht => ?_)
          obtain ⟨c, hR8, hL8⟩ := hR3
          replace hL8 := hL8 _ _ hL7
          replace a2 := aM (ht _ _ _ hHeld.1 (by decide))
          replace HB := aM (HB.out.trans hb8)
          have hR8 : Rw w8 B c s (.slice pB pN pD) v o st (M.take (j + 1)) sv ob := by rw [hMj.out]; exact hR8
          refine hy hK ?_
          clear hK K
          refine pV 16 ?_
          refine pV 17 ?_
          refine sV 18 ?_
          refine done_ (by kernel_rfl) ?_
          try go_wp2
          go_roundg (3 - j)
          case measure => have := hj.out; omega
          case rel => exact ⟨j + 1, c, .slice pB pN pD, by simp, ⟨by omega⟩, ⟨HB.out.setCell ha _⟩, ⟨hR8.on (Alien.one a2) (OnL_set (OnL_refl _ _) _ _ (by simp))⟩, ⟨R_al hL8 (Alien.one a2) (by decide) (fun _ => lt4 (by decide)) (OnL_set (OnL_refl _ _) _ _ (by simp))⟩, ⟨kR a2⟩⟩
        · have hj5 : j = 4 := by have := hj.out; omega
          subst hj5
          rw [List.take_of_length_le (by rw [hM4.out]; omega)] at hR
          try go_wp2
          go_ret
          exact fin_ (q := ⟨⟨st, ⟨t0, t1, t2, t3⟩, M, gr, ⟨x0, y0, x1, y1⟩⟩, sv, ob⟩) (by rw [hp.out, if_pos ⟨e1, e2⟩, hM.out, hL0.out]; simp [rectP, rd, mvP]) hR.out HB.out a2
end Go.Proofs.YtjkgponlahfnjaaGreat.Ex
