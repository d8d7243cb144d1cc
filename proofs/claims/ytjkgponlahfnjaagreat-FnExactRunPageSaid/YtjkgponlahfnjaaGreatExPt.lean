/- impl.painted on a page in memory: what it does, by the name of the token. -/
import Derived.Test.YtjkgponlahfnjaaGreatExBd
set_option linter.unusedVariables false
set_option linter.unusedSimpArgs false
set_option maxHeartbeats 8000000
set_option maxRecDepth 100000
namespace Go.Proofs.YtjkgponlahfnjaaGreat.Ex
open Go.RowKit Go.Proofs.YtjkgponlahfnjaaGreatW.PrintWords Go.Proofs.YtjkgponlahfnjaaGreatW.PrintLast Go.Proofs.YtjkgponlahfnjaaGreatW.PrintMore
open Go.Proofs.YtjkgponlahfnjaaGreat.QFnExactRunPage Go.Proofs.YtjkgponlahfnjaaGreat.Pure Go.Proofs.YtjkgponlahfnjaaGreat.Plain
attribute [local go_sem] Tryz.underlying46 Tryz.underlying42 Tryz.underlying38 Tryz.underlying111 Tryz.underlying40 Tryz.underlying103
theorem pt_new {nm : ByteArray} {A : Option Addr} {C B a : Nat} {P : Pg} {w : World} (h : Pre w B a P) (hnm : nm.toList = [110, 101, 119]) : Calls Tryz.prog 44 #[.pointer (some ⟨a, 0, none⟩), .string nm, .slice A 0 C] w (Pt w B a (paint P nm [])) := by
  obtain ⟨⟨st, ⟨t0, t1, t2, t3⟩, pa, gr, ⟨x0, y0, x1, y1⟩⟩, sv, ob⟩ := P
  obtain ⟨⟨c, s, p, v, o, hR, hb⟩, ha, hB, hq, hn⟩ := h
  dsimp only at hR hb hq
  have a2 := aM hb
  have F := aM (Fr.refl [a] B w)
  replace hR := aM hR
  clear hb
  go_enter Tryz.func44, Tryz.ntmps44
  have hz := cz13 a2
  try go_wp2
  go_ret
  exact fin_ (q := ⟨⟨st, ⟨t0, t1, t2, t3⟩, [], gr, ⟨x0, y0, x1, y1⟩⟩, sv, ob⟩) (by simp [paint, hnm]) hR.out.nilP (Below.refl _ _) a2
theorem pt_gray {nm : ByteArray} {ad : Addr} {x : Int} {C B a : Nat} {P : Pg} {w : World} (h : Pre w B a P) (hl : LdL w ad [x]) (hnm : nm.toList = [103, 114, 97, 121]) : Calls Tryz.prog 44 #[.pointer (some ⟨a, 0, none⟩), .string nm, .slice (some ad) 1 C] w (Pt w B a (paint P nm [x])) := by
  obtain ⟨⟨st, ⟨t0, t1, t2, t3⟩, pa, gr, ⟨x0, y0, x1, y1⟩⟩, sv, ob⟩ := P
  obtain ⟨⟨c, s, p, v, o, hR, hb⟩, ha, hB, hq, hn⟩ := h
  dsimp only at hR hb hq
  have a2 := aM hb
  have F := aM (Fr.refl [a] B w)
  replace hR := aM hR
  clear hb
  have hz := cz13 a2
  have hl0 := hl _ (List.mem_cons_self ..)
  go_enter Tryz.func44, Tryz.ntmps44
  try go_wp2
  go_ret
  exact fin_ (q := ⟨⟨st, ⟨t0, t1, t2, t3⟩, pa, x, ⟨x0, y0, x1, y1⟩⟩, sv, ob⟩) (by simp [paint, hnm, rd]) hR.out (Below.refl _ _) a2
theorem pt_moveto {nm : ByteArray} {ad : Addr} {x y : Int} {C B a : Nat} {P : Pg} {w : World} (h : Pre w B a P) (hl : LdL w ad [x, y]) (hnm : nm.toList = [109, 111, 118, 101, 116, 111]) : Calls Tryz.prog 44 #[.pointer (some ⟨a, 0, none⟩), .string nm, .slice (some ad) 2 C] w (Pt w B a (paint P nm [x, y])) := by
  obtain ⟨⟨st, ⟨t0, t1, t2, t3⟩, pa, gr, ⟨x0, y0, x1, y1⟩⟩, sv, ob⟩ := P
  obtain ⟨⟨c, s, p, v, o, hR, hb⟩, ha, hB, hq, hn⟩ := h
  dsimp only at hR hb hq
  have a2 := aM hb
  have F := aM (Fr.refl [a] B w)
  replace hR := aM hR
  clear hb
  obtain ⟨kk, hmv⟩ := iMoved_ev ⟨t0, t1, t2, t3⟩ x y hq.1 hq.2
  replace hmv := hmv kk (Nat.le_refl _)
  go_enter Tryz.func44, Tryz.ntmps44
  try go_wp2
  refine sta 17 [16] _ a2 hl F (fun w0 hb0 F hHeld => ?_)
  refine pV 0 ?_
  refine pV 1 ?_
  refine pV 2 ?_
  refine pV 3 ?_
  refine pV 5 ?_
  refine pV 6 ?_
  refine pV 8 ?_
  refine pV 9 ?_
  refine tV 4 ?_
  refine tV 7 ?_
  refine tV 10 ?_
  refine pV 11 ?_
  refine qV 12 Tryz.func89 (impl_moved.calls kk t0 t1 t2 t3 x y _ _ _ hmv) F hB hHeld (fun w1 hb F hHeld => ?_)
  refine oV 13 (fun K hK => ?_)
  refine litP (pM _ _) (fun pA pC w2 hp hb => ?_)
  obtain ⟨c, hR⟩ := (hR.out.on (Alien.one a2) F.out.on).newP hb (Nat.le_trans hB F.out.on.1) hp
  replace F := aM (F.out.below hB hb)
  refine hx hK (hHeld.below hb) (fun hHeld => ?_)
  clear hK K hb hp
  refine pV 14 ?_
  refine pV 15 ?_
  replace a2 := aM hHeld.1
  refine sV 16 ?_
  refine done_ (by kernel_rfl) ?_
  try go_wp2
  go_ret
  exact fin_ (q := ⟨⟨st, ⟨t0, t1, t2, t3⟩, [mvP ⟨t0, t1, t2, t3⟩ x y], gr, ⟨x0, y0, x1, y1⟩⟩, sv, ob⟩) (by simp [paint, hnm, rd, mvP]) hR F.out.bl a2
theorem pt_lineto {nm : ByteArray} {ad : Addr} {x y : Int} {C B a : Nat} {P : Pg} {w : World} (h : Pre w B a P) (hl : LdL w ad [x, y]) (hnm : nm.toList = [108, 105, 110, 101, 116, 111]) : Calls Tryz.prog 44 #[.pointer (some ⟨a, 0, none⟩), .string nm, .slice (some ad) 2 C] w (Pt w B a (paint P nm [x, y])) := by
  obtain ⟨⟨st, ⟨t0, t1, t2, t3⟩, pa, gr, ⟨x0, y0, x1, y1⟩⟩, sv, ob⟩ := P
  obtain ⟨⟨c, s, p, v, o, hR, hb⟩, ha, hB, hq, hn⟩ := h
  dsimp only at hR hb hq
  have a2 := aM hb
  have F := aM (Fr.refl [a] B w)
  replace hR := aM hR
  clear hb
  obtain ⟨pA, pC, rfl⟩ := Kd.R_slice hR.out.hp
  go_enter Tryz.func44, Tryz.ntmps44
  have hz := cg5 a2
  by_cases e0 : pa = []
  · subst e0
    try go_wp2
    go_ret
    exact fno_ (by simp [paint, hnm]) F
  have e1 : pa.length ≠ 0 := fun h => e0 (List.eq_nil_of_length_eq_zero h)
  have e2 : ((pa.length : Int) == 0) = false := beq_eq_false_iff_ne.mpr (by omega)
  obtain ⟨kk, hmv⟩ := iMoved_ev ⟨t0, t1, t2, t3⟩ x y hq.1 hq.2
  replace hmv := hmv kk (Nat.le_refl _)
  try go_wp2
  refine sta 22 [18, 21] _ a2 hl F (fun w0 hb0 F hHeld => ?_)
  refine pV 0 ?_
  refine pV 1 ?_
  refine pV 2 ?_
  refine pV 3 ?_
  refine pV 5 ?_
  refine pV 6 ?_
  refine pV 7 ?_
  refine pV 9 ?_
  refine pV 10 ?_
  refine pV 12 ?_
  refine pV 13 ?_
  refine tV 4 ?_
  refine tV 8 ?_
  refine tV 11 ?_
  refine tV 14 ?_
  refine pV 15 ?_
  refine qV 16 Tryz.func89 (impl_moved.calls kk t0 t1 t2 t3 x y _ _ _ hmv) F hB hHeld (fun w1 hb F hHeld => ?_)
  refine oV 17 (fun K hK => ?_)
  refine aV hK (hHeld.alloc _) (fun hHeld2 => ?_)
  clear hK K hHeld2
  refine lV 18 (fun K hK => ?_)
  refine (hR.out.on (Alien.one a2) F.out.on).appP (.tmp 96) (.tmp 109) _ _ F.out.bl (Nat.le_trans hB F.out.on.1) (by rfl) rfl Tryz.underlying39 info111 rfl rfl (by have := hn.2.1; simp only at this; omega) (fun pB pN pD w3 hR3 hb ht => ?_)
  obtain ⟨c, hR, _⟩ := hR3
  replace a2 := aM (ht _ _ _ hHeld.1 (by decide))
  refine hy hK ?_
  clear hK K
  refine pV 19 ?_
  refine pV 20 ?_
  refine sV 21 ?_
  refine done_ (by kernel_rfl) ?_
  try go_wp2
  go_ret
  exact fin_ (q := ⟨⟨st, ⟨t0, t1, t2, t3⟩, pa ++ [mvP ⟨t0, t1, t2, t3⟩ x y], gr, ⟨x0, y0, x1, y1⟩⟩, sv, ob⟩) (by simp [paint, hnm, rd, mvP, e1]) hR hb a2
theorem pt_fill {nm : ByteArray} {A : Option Addr} {C B a : Nat} {P : Pg} {w : World} (h : Pre w B a P) (hnm : nm.toList = [102, 105, 108, 108]) : Calls Tryz.prog 44 #[.pointer (some ⟨a, 0, none⟩), .string nm, .slice A 0 C] w (Pt w B a (paint P nm [])) := by
  obtain ⟨⟨st, ⟨t0, t1, t2, t3⟩, pa, gr, ⟨x0, y0, x1, y1⟩⟩, sv, ob⟩ := P
  obtain ⟨⟨c, s, p, v, o, hR, hb⟩, ha, hB, hq, hn⟩ := h
  dsimp only at hR hb hq
  have a2 := aM hb
  have F := aM (Fr.refl [a] B w)
  replace hR := aM hR
  clear hb
  obtain ⟨pA, pC, rfl⟩ := Kd.R_slice hR.out.hp
  obtain ⟨oA, oC, rfl⟩ := Kd.S_slice hR.out.ho
  go_enter Tryz.func44, Tryz.ntmps44
  have hz := cg5 a2
  by_cases e0 : (pa.length : Int) < 3
  · have e1 := decide_eq_true e0
    try go_wp2
    go_ret
    exact fno_ (by simp [paint, hnm]; omega) F
  have e1 := decide_eq_false e0
  try go_wp2
  refine sta 24 [20, 23] [] a2 (by simp) F (fun w0 hb0 F hHeld => ?_)
  refine pV 0 ?_
  refine pV 1 ?_
  refine pV 2 ?_
  refine pV 3 ?_
  refine pV 5 ?_
  refine pV 6 ?_
  refine pV 7 ?_
  refine pV 10 ?_
  refine pV 11 ?_
  refine pV 12 ?_
  refine pV 14 ?_
  refine pV 15 ?_
  refine pV 16 ?_
  refine tV 4 ?_
  refine tV 8 ?_
  refine tV 13 ?_
  refine tV 17 ?_
  refine oV 9 (fun K hK => ?_)
  refine cV Tryz.func90 (impl_Point.calls _ _ pa pa _ (Kd.R_reads' (Kd.R_below hR.out.hp hb0)).2.2 (Kd.R_reads' hR.out.hp).2.1 (iCloneP_eq pa (by have := hn.2.1; simp only at this; omega))) ?_
  rintro e w1 ⟨r, rfl, hr, hb⟩
  refine ⟨_, rfl, ?_⟩
  obtain ⟨rA, rC, rfl⟩ := Kd.R_slice hr
  have hd := (((hR.out.on (Alien.one a2) F.out.on).dye 4).below hb)
  have h4 := Kd.R_lower (Kd.R_mono (Kd.R_bound hr) (fun k hk => tint_new (c := c) (i := 4) hk.2.1)) (Nat.le_trans hB F.out.on.1)
  replace F := aM (F.out.below hB hb)
  refine hx hK (hHeld.below hb) (fun hHeld => ?_)
  clear hK K hb hr
  refine pV 18 ?_
  refine oV 19 (fun K hK => ?_)
  refine aV hK (hHeld.alloc _) (fun hHeld2 => ?_)
  clear hK K hHeld2
  refine lV 20 (fun K hK => ?_)
  refine Rw.appO (f := gr) (bx := ⟨x0, y0, x1, y1⟩) hd h4 (.tmp 192) (.tmp 207) F.out.bl (Nat.le_trans hB F.out.on.1) (by rfl) rfl Tryz.underlying44 info103 rfl rfl (by have := hn.2.2.2.2.1; simp only at this; omega) (fun pB pN pD w3 hR3 hb ht => ?_)
  obtain ⟨c, hR⟩ := hR3
  replace a2 := aM (ht _ _ _ hHeld.1 (by decide))
  refine hy hK ?_
  clear hK K
  refine pV 21 ?_
  refine pV 22 ?_
  refine sV 23 ?_
  refine done_ (by kernel_rfl) ?_
  have hz := cz13 a2
  try go_wp2
  go_ret
  exact fin_ (q := ⟨⟨st, ⟨t0, t1, t2, t3⟩, [], gr, ⟨x0, y0, x1, y1⟩⟩, sv, ob ++ [⟨pa, gr, ⟨x0, y0, x1, y1⟩⟩]⟩) (by simp [paint, hnm]; omega) hR.nilP hb a2
theorem pt_clip {nm : ByteArray} {A : Option Addr} {C B a : Nat} {P : Pg} {w : World} (h : Pre w B a P) (hnm : nm.toList = [99, 108, 105, 112]) : Calls Tryz.prog 44 #[.pointer (some ⟨a, 0, none⟩), .string nm, .slice A 0 C] w (Pt w B a (paint P nm [])) := by
  obtain ⟨⟨st, ⟨t0, t1, t2, t3⟩, pa, gr, ⟨x0, y0, x1, y1⟩⟩, sv, ob⟩ := P
  obtain ⟨⟨c, s, p, v, o, hR, hb⟩, ha, hB, hq, hn⟩ := h
  dsimp only at hR hb hq
  have a2 := aM hb
  have F := aM (Fr.refl [a] B w)
  replace hR := aM hR
  clear hb
  obtain ⟨pA, pC, rfl⟩ := Kd.R_slice hR.out.hp
  go_enter Tryz.func44, Tryz.ntmps44
  have hz := cg5 a2
  by_cases e0 : pa = []
  · subst e0
    try go_wp2
    go_ret
    exact fno_ (by simp [paint, hnm]) F
  have e1 : pa.length ≠ 0 := fun h => e0 (List.eq_nil_of_length_eq_zero h)
  have e2 : ((pa.length : Int) == 0) = false := beq_eq_false_iff_ne.mpr (by omega)
  obtain ⟨k1, h1⟩ := iBoxOf_ev pa (by have := hn.2.1; simp only at this; rw [maxLen_eq]; omega)
  obtain ⟨k2, h2⟩ := iMeetBox_ev x0 y0 x1 y1 (boxOf pa).1 (boxOf pa).2.1 (boxOf pa).2.2.1 (boxOf pa).2.2.2
  replace h1 := h1 k1 (Nat.le_refl _)
  replace h2 := h2 k2 (Nat.le_refl _)
  generalize hbx : boxOf pa = bx at h1 h2
  obtain ⟨b0, b1, b2, b3⟩ := bx
  generalize hmt : meet (x0, y0, x1, y1) (b0, b1, b2, b3) = mt at h2
  obtain ⟨m0, m1, m2, m3⟩ := mt
  try go_wp2
  refine sta 14 [13] [] a2 (by simp) F (fun w0 hb0 F hHeld => ?_)
  refine pV 0 ?_
  refine pV 1 ?_
  refine pV 2 ?_
  refine pV 3 ?_
  refine pV 5 ?_
  refine pV 6 ?_
  refine pV 7 ?_
  refine tV 4 ?_
  refine tV 8 ?_
  refine qV 9 Tryz.func92 (impl_BoxOf.calls k1 _ _ pa _ _ _ _ _ (Kd.R_reads' (Kd.R_below hR.out.hp hb0)).2.2 (Kd.R_reads' hR.out.hp).2.1 h1) F hB hHeld (fun w1 hb F hHeld => ?_)
  refine qV 10 Tryz.func91 (impl_MeetBox.calls k2 x0 y0 x1 y1 _ _ _ _ _ _ _ _ _ h2) F hB hHeld (fun w1 hb F hHeld => ?_)
  refine pV 11 ?_
  refine pV 12 ?_
  replace hR := (hR.out.on (Alien.one a2) F.out.on).nilP
  replace a2 := aM hHeld.1
  refine sV 13 ?_
  refine done_ (by kernel_rfl) ?_
  have hz := cz13 a2
  try go_wp2
  go_ret
  exact fin_ (q := ⟨⟨st, ⟨t0, t1, t2, t3⟩, [], gr, ⟨m0, m1, m2, m3⟩⟩, sv, ob⟩) (by simp [paint, hnm, e0, hbx, hmt, box4]) hR F.out.bl a2
theorem pt_save {nm : ByteArray} {A : Option Addr} {C B a : Nat} {P : Pg} {w : World} (h : Pre w B a P) (hnm : nm.toList = [115, 97, 118, 101]) : Calls Tryz.prog 44 #[.pointer (some ⟨a, 0, none⟩), .string nm, .slice A 0 C] w (Pt w B a (paint P nm [])) := by
  obtain ⟨⟨st, ⟨t0, t1, t2, t3⟩, pa, gr, ⟨x0, y0, x1, y1⟩⟩, sv, ob⟩ := P
  obtain ⟨⟨c, s, p, v, o, hR, hb⟩, ha, hB, hq, hn⟩ := h
  dsimp only at hR hb hq
  have a2 := aM hb
  have F := aM (Fr.refl [a] B w)
  replace hR := aM hR
  clear hb
  obtain ⟨pA, pC, rfl⟩ := Kd.R_slice hR.out.hp
  obtain ⟨sA, sC, rfl⟩ := Kd.R_slice hR.out.hs
  obtain ⟨vA, vC, rfl⟩ := Kd.S_slice hR.out.hv
  have n1 := hn.1
  have n2 := hn.2.1
  simp only at n1 n2
  go_enter Tryz.func44, Tryz.ntmps44
  try go_wp2
  refine sta 14 [10, 13] [] a2 (by simp) F (fun w0 hb0 F hHeld => ?_)
  refine pV 0 ?_
  refine pV 1 ?_
  refine pV 2 ?_
  refine pV 3 ?_
  refine pV 5 ?_
  refine pV 6 ?_
  refine tV 4 ?_
  refine tV 7 ?_
  refine oV 8 (fun K hK => ?_)
  refine cV Tryz.func85 (impl_copyGraphics.calls _ _ st t0 t1 t2 t3 _ _ pa gr x0 y0 x1 y1 _ _ _ _ _ _ _ _ _ _ _ _ (Kd.R_reads' (Kd.R_below hR.out.hs hb0)).2.2 (Kd.R_reads' hR.out.hs).2.1 (Kd.R_reads' (Kd.R_below hR.out.hp hb0)).2.2 (Kd.R_reads' hR.out.hp).2.1 (icopyG_eq st t0 t1 t2 t3 pa gr x0 y0 x1 y1 (by omega) (by omega))) ?_
  rintro e w1 ⟨r, r5, rfl, hr, hr5, hb⟩
  refine ⟨_, rfl, ?_⟩
  obtain ⟨rA, rC, rfl⟩ := Kd.R_slice hr
  obtain ⟨qA, qC, rfl⟩ := Kd.R_slice hr5
  have hd := ((hR.out.on (Alien.one a2) F.out.on).dye 4).below hb
  have h4 := Kd.R_lower (Kd.R_mono (Kd.R_bound hr) (fun k hk => tint_new (c := c) (i := 4) hk.2.1)) (Nat.le_trans hB F.out.on.1)
  have h5 := Kd.R_lower (Kd.R_mono (Kd.R_bound hr5) (fun k hk => tint_new (c := c) (i := 4) hk.2.1)) (Nat.le_trans hB F.out.on.1)
  replace F := aM (F.out.below hB hb)
  refine hx hK (hHeld.below hb) (fun hHeld => ?_)
  clear hK K hb hr hr5
  refine oV 9 (fun K hK => ?_)
  refine aV hK (hHeld.alloc _) (fun hHeld2 => ?_)
  clear hK K hHeld2
  refine lV 10 (fun K hK => ?_)
  refine Rw.appV (x := ⟨st, ⟨t0, t1, t2, t3⟩, pa, gr, ⟨x0, y0, x1, y1⟩⟩) hd h4 h5 (.tmp 252) (.tmp 257) F.out.bl (Nat.le_trans hB F.out.on.1) (by rfl) rfl Tryz.underlying43 info42 rfl rfl (by have := hn.2.2.1; simp only at this; omega) (fun pB pN pD w3 hR3 hb ht => ?_)
  obtain ⟨c, hR⟩ := hR3
  replace a2 := aM (ht _ _ _ hHeld.1 (by decide))
  refine hy hK ?_
  clear hK K
  refine pV 11 ?_
  refine pV 12 ?_
  refine sV 13 ?_
  refine done_ (by kernel_rfl) ?_
  try go_wp2
  go_ret
  exact fin_ (q := ⟨⟨st, ⟨t0, t1, t2, t3⟩, pa, gr, ⟨x0, y0, x1, y1⟩⟩, sv ++ [⟨st, ⟨t0, t1, t2, t3⟩, pa, gr, ⟨x0, y0, x1, y1⟩⟩], ob⟩) (by simp [paint, hnm]) hR hb a2
theorem pt_turn {nm : ByteArray} {ad : Addr} {l : List Int} {C B a : Nat} {P : Pg} {w : World} (h : Pre w B a P) (hl : LdL w ad l) (hnm : (nm.toList = [115, 104, 105, 102, 116] ∧ ∃ x y, l = [x, y]) ∨ ((nm.toList = [116, 117, 114, 110] ∨ nm.toList = [115, 99, 97, 108, 101]) ∧ ∃ x, l = [x])) : Calls Tryz.prog 44 #[.pointer (some ⟨a, 0, none⟩), .string nm, .slice (some ad) l.length C] w (Pt w B a (paint P nm l)) := by
  obtain ⟨⟨st, ⟨t0, t1, t2, t3⟩, pa, gr, ⟨x0, y0, x1, y1⟩⟩, sv, ob⟩ := P
  obtain ⟨⟨c, s, p, v, o, hR, hb⟩, ha, hBB, hq, hn⟩ := h
  dsimp only at hR hb hq
  have a2 := aM hb
  have HB := aM (Below.refl w.heap.size w)
  replace hR := aM hR
  have hl0 := hl
  have hp : paint ⟨⟨st, ⟨t0, t1, t2, t3⟩, pa, gr, ⟨x0, y0, x1, y1⟩⟩, sv, ob⟩ nm l = if (joinV (otherT nm l) ⟨t0, t1, t2, t3⟩).2 = true then some ⟨⟨st, (joinV (otherT nm l) ⟨t0, t1, t2, t3⟩).1, pa, gr, ⟨x0, y0, x1, y1⟩⟩, sv, ob⟩ else none := by
    rcases hnm with ⟨hnm, _⟩ | ⟨hnm | hnm, _⟩ <;> simp [paint, hnm]
  generalize paint ⟨⟨st, ⟨t0, t1, t2, t3⟩, pa, gr, ⟨x0, y0, x1, y1⟩⟩, sv, ob⟩ nm l = r at hp ⊢
  replace hp := aM hp
  have hne : ∀ X ∈ ([[110, 101, 119], [109, 111, 118, 101, 116, 111], [108, 105, 110, 101, 116, 111], [114, 101, 99, 116], [102, 105, 108, 108], [103, 114, 97, 121], [99, 108, 105, 112], [115, 97, 118, 101], [114, 101, 115, 116, 111, 114, 101]] : List (List UInt8)), (nm.toList == X) = false := by
    rcases hnm with ⟨hnm, _⟩ | ⟨hnm | hnm, _⟩ <;> rw [hnm] <;> decide
  simp only [List.forall_mem_cons, List.not_mem_nil, false_implies, implies_true, and_true] at hne
  go_enter Tryz.func44, Tryz.ntmps44
  go_upto_block 1 with (first | ((with_reducible refine gC 93 ?_); refine cM (some 22) Tryz.func93 (impl_Identity.calls _ _ _ _ _ rfl) ?_; rintro e w1 ⟨rfl, hb⟩; refine ⟨_, rfl, ?_⟩; replace HB := hB hb; replace a2 := kB_ a hb; clear hb) | ((with_reducible refine gD 15 ?_); refine bxE #[.int .i64 0, .int .i64 0, .int .i64 0, .int .i64 0] 38 ?_; intro b1 hg w2 b2 hb; have e1 := nL_ a hg; have e2 := nG_ a hg; have e3 := gE hg; replace HB := hB hb; replace a2 := kB_ a hb; clear hb hg; have hz := cz4 b2))
  (try simp only [Act.put, List.setIfInBounds_toArray, List.set_cons_zero, List.set_cons_succ])
  go_cut [] from 1 to 0 (fun wc => ∃ d0 d1 d2 d3 : Int, otherT nm l = ⟨d0, d1, d2, d3⟩ ∧ Aside0 (Below w.heap.size w wc) ∧ Aside0 (wc.heap[a]? = some (.cells #[s, .int .i64 t0, .int .i64 t1, .int .i64 t2, .int .i64 t3, p, .int .i64 gr, .int .i64 x0, .int .i64 y0, .int .i64 x1, .int .i64 y1, v, o] 46 (0, 0))) ∧ Aside0 (wc.heap[b1]? = some (.cells #[.int .i64 d0, .int .i64 d1, .int .i64 d2, .int .i64 d3] 38 (0, 0))))
  case first =>
   obtain ⟨w3, hw⟩ : ∃ w3, w3 = (((w2.setCell ⟨b1, 0, none⟩ (.int .i64 0)).setCell ⟨b1, 1, none⟩ (.int .i64 1)).setCell ⟨b1, 2, none⟩ (.int .i64 0)).setCell ⟨b1, 3, none⟩ (.int .i64 0) := ⟨_, rfl⟩
   have HB3 : Aside0 (Below w.heap.size w w3) := ⟨by rw [hw]; exact bS⟩
   have a3 : Aside0 (w3.heap[a]? = some (.cells #[s, .int .i64 t0, .int .i64 t1, .int .i64 t2, .int .i64 t3, p, .int .i64 gr, .int .i64 x0, .int .i64 y0, .int .i64 x1, .int .i64 y1, v, o] 46 (0, 0))) := ⟨by rw [hw]; exact kS⟩
   have b3 : Aside0 (w3.heap[b1]? = some (.cells #[.int .i64 0, .int .i64 1, .int .i64 0, .int .i64 0] 38 (0, 0))) := ⟨by rw [hw]; exact kS⟩
   rw [← hw]
   clear hw a2 b2 HB hz
   have b2 := b3
   have a2 := a3
   have HB := HB3
   clear b3 a3 HB3
   have hz := cz4 b2
   replace hl := hl.below HB.out
   rcases hnm with ⟨hnm, x, y, rfl⟩ | ⟨hnm | hnm, x, rfl⟩
   · try go_wp2
     refine sta (w0 := w) (lk := []) (B := w.heap.size) 10 [9] _ a2 hl ⟨Fr.of (Nat.le_refl _) HB.out⟩ (fun w0 hb0 F hHeld => ?_)
     replace a2 := kB_ a hb0
     replace b2 := kB_ b1 hb0
     replace HB := hB hb0
     refine pV 0 ?_
     refine pV 1 ?_
     refine pV 3 ?_
     refine pV 4 ?_
     refine tV 2 ?_
     refine pV 6 ?_
     refine tV 5 ?_
     refine sH 7 (hHeld.new ⟨_, hb⟩ (fun z hz => World.block_lt_of_cell? _ _ (hl0 z hz)) e3.out) (fun hHeld => ?_)
     refine pV 8 ?_
     refine sV 9 ?_
     refine done_ (by kernel_rfl) ?_
     try go_wp2
     go_meet
     case rel => exact ⟨0, 1, x, y, by simp [otherT, hnm, rd], ⟨bS⟩, ⟨kS⟩, ⟨kS⟩⟩
   · have hx := hl _ (List.mem_cons_self ..)
     try go_wp2
     go_meet
     case rel => exact ⟨x, 1, 0, 0, by simp [otherT, hnm, rd], ⟨bS⟩, ⟨kS⟩, ⟨kS⟩⟩
   · have hx := hl _ (List.mem_cons_self ..)
     try go_wp2
     go_meet
     case rel => exact ⟨0, x, 0, 0, by simp [otherT, hnm, rd], ⟨bS⟩, ⟨kS⟩, ⟨kS⟩⟩
  case rest =>
   obtain ⟨d0, d1, d2, d3, ho, HB, a2, b2⟩ := hcut
   obtain ⟨k1, h1⟩ := iJoin_ev ⟨d0, d1, d2, d3⟩ ⟨t0, t1, t2, t3⟩
   replace h1 := h1 k1 (Nat.le_refl _)
   replace hp := hp.out
   rw [ho] at hp
   generalize joinV ⟨d0, d1, d2, d3⟩ ⟨t0, t1, t2, t3⟩ = J at h1 hp
   obtain ⟨⟨q0, q1, q2, q3⟩, ok⟩ := J
   replace hp := aM hp
   try go_wp2
   refine sta (w0 := w) (lk := [a]) (B := B) 12 [10] [(⟨b1, 0, none⟩, .int .i64 d0), (⟨b1, 1, none⟩, .int .i64 d1), (⟨b1, 2, none⟩, .int .i64 d2), (⟨b1, 3, none⟩, .int .i64 d3)] a2 (by have := cz4 b2; simp [this]) ⟨Fr.of hBB HB.out⟩ (fun w4 hb0 F hHeld => ?_)
   refine pV 1 ?_
   refine pV 2 ?_
   refine pV 3 ?_
   refine tV 0 ?_
   refine tV 4 ?_
   refine join_ (σ := Nat) 2 (mB 12 1023) (fun s_ => [(52, .tuple #[.agg #[.int .i64 q0, .int .i64 q1, .int .i64 q2, .int .i64 q3], .bool ok]), (16, .pointer (some ⟨s_, 0, none⟩)), (46, .tuple #[.agg #[.int .i64 q0, .int .i64 q1, .int .i64 q2, .int .i64 q3], .bool ok]), (53, .agg #[.int .i64 q0, .int .i64 q1, .int .i64 q2, .int .i64 q3]), (54, .bool ok)]) (fun g w' => (Below w4.heap.size w4 w' ∧ w4.heap.size ≤ g) ∧ w'.heap[g]? = some (.cells #[.int .i64 0, .int .i64 0, .int .i64 0, .int .i64 0] 38 (0, 0))) ?_ ?_
   · rintro g w5 ⟨⟨hb5, hg⟩, b3⟩
     have b2 := aM b3
     have e4 : a ≠ g := by have := blk_lt hHeld.1; omega
     have e5 := Ne.symm e4
     have e6 := aM e4
     replace a2 := aM (hHeld.below hb5).1
     replace F := aM (F.out.below hBB hb5)
     have hR5 := hR.out.on (Alien.one ⟨hb⟩) F.out.on
     have hg0 : w.heap.size ≤ g := Nat.le_trans (Nat.le_trans HB.out.size hb0.size) hg
     refine norm_ (a' := ?_) ?_ ?_
     rotate_left
     · simp only [putAll, Act.put, List.setIfInBounds_toArray, List.set_cons_zero, List.set_cons_succ]
       rfl
     refine sV 10 ?_
     refine pV 11 ?_
     refine done_ (by kernel_rfl) ?_
     have hz := cz13 a2
     have hz4 := cz4 b2
     cases ok with
     | false =>
       try go_wp2
       go_ret
       refine fno_ (w1 := w) (by rw [hp.out]; rfl) ⟨Fr.refl _ _ _⟩ rfl ?_
       repeat (first | (with_reducible exact F.out) | (with_reducible refine Fr.set ?_ _ _ (by simp) ha) | (with_reducible refine Fr.new ?_ _ _ hBB hg0))
     | true =>
       try go_wp2
       go_ret
       refine fin_ (w1 := w) (q := ⟨⟨st, ⟨q0, q1, q2, q3⟩, pa, gr, ⟨x0, y0, x1, y1⟩⟩, sv, ob⟩) (by rw [hp.out]; rfl) hR.out (Below.refl _ _) ⟨hb⟩ rfl ?_ kS
       repeat (first | (with_reducible exact F.out) | (with_reducible refine Fr.set ?_ _ _ (by simp) ha) | (with_reducible refine Fr.new ?_ _ _ hBB hg0))
   · intro hCont
     refine twV 5 9 (fun K hK => ?_) (fun K hK => ?_)
     · refine cV Tryz.func94 (impl_JoinTurns.calls k1 d0 d1 d2 d3 t0 t1 t2 t3 q0 q1 q2 q3 ok _ h1) ?_
       rintro e w5 ⟨rfl, hb⟩
       refine ⟨_, rfl, ?_⟩
       refine hx hK (hHeld.below hb) (fun hHeld => ?_)
       clear hK K
       refine pV 6 ?_
       refine pV 7 ?_
       refine pV 8 ?_
       refine oV 9 (fun K hK => ?_)
       refine bV #[.int .i64 0, .int .i64 0, .int .i64 0, .int .i64 0] 38 (fun g hg w6 b3 hb6 => ?_)
       refine hx hK (hHeld.below hb6) (fun hHeld => ?_)
       exact nV (norm_ (by simp only [putAll, Act.put, List.setIfInBounds_toArray, List.set_cons_zero, List.set_cons_succ]) (hCont g _ ⟨⟨below_step hb hb6, by rw [hg]; exact hb.size⟩, b3⟩))
     · refine bV #[.int .i64 0, .int .i64 0, .int .i64 0, .int .i64 0] 38 (fun g hg w6 b3 hb6 => ?_)
       refine hx hK (hHeld.below hb6) (fun hHeld => ?_)
       clear hK K
       refine oV 5 (fun K hK => ?_)
       refine cV Tryz.func94 (impl_JoinTurns.calls k1 d0 d1 d2 d3 t0 t1 t2 t3 q0 q1 q2 q3 ok _ h1) ?_
       rintro e w5 ⟨rfl, hb⟩
       refine ⟨_, rfl, ?_⟩
       refine hx hK (hHeld.below hb) (fun hHeld => ?_)
       clear hK K
       refine pV 6 ?_
       refine pV 7 ?_
       refine pV 8 ?_
       exact nV (norm_ (by simp only [putAll, Act.put, List.setIfInBounds_toArray, List.set_cons_zero, List.set_cons_succ]) (hCont g _ ⟨⟨below_step hb6 hb, Nat.le_of_eq hg.symm⟩, blk_below b3 hb⟩))
theorem pt_restore {nm : ByteArray} {A : Option Addr} {C B a : Nat} {P : Pg} {w : World} (h : Pre w B a P) (hnm : nm.toList = [114, 101, 115, 116, 111, 114, 101]) : Calls Tryz.prog 44 #[.pointer (some ⟨a, 0, none⟩), .string nm, .slice A 0 C] w (Pt w B a (paint P nm [])) := by
  obtain ⟨⟨st, ⟨t0, t1, t2, t3⟩, pa, gr, ⟨x0, y0, x1, y1⟩⟩, sv, ob⟩ := P
  obtain ⟨⟨c, s, p, v, o, hR, hb⟩, ha, hB, hq, hn⟩ := h
  dsimp only at hR hb hq
  have a2 := aM hb
  have F := aM (Fr.refl [a] B w)
  replace hR := aM hR
  clear hb
  obtain ⟨vA, vC, rfl⟩ := Kd.S_slice hR.out.hv
  obtain ⟨sA, sC, rfl⟩ := Kd.R_slice hR.out.hs
  have a0 := a2
  go_enter Tryz.func44, Tryz.ntmps44
  by_cases e0 : sv = []
  · subst e0
    have hz := cg11 a2
    try go_wp2
    go_ret
    exact fno_ (by simp [paint, hnm]) F
  have e1 : 0 < sv.length := Nat.pos_of_ne_zero (fun h => e0 (List.eq_nil_of_length_eq_zero h))
  have e2 : ((sv.length : Int) == 0) = false := beq_eq_false_iff_ne.mpr (by omega)
  obtain ⟨ad, rfl⟩ : ∃ ad, vA = some ad := by
    obtain ⟨g, cap, hv, _⟩ := Kd.S_form hR.out.hv e1
    exact ⟨_, (slE hv).1.symm⟩
  have hcap := (Kd.S_reads' hR.out.hv).2.1
  obtain ⟨c1, A5, C5, v0, hR1, hcc, A0, C0, rfl⟩ := hR.out.popV e1
  have hz := cz13 a2
  try go_wp2
  obtain ⟨i, hi⟩ : ∃ i : Int, i = (sv.length : Int) - 1 := ⟨_, rfl⟩
  have hin : i.toNat = sv.length - 1 := by omega
  have hw : IntKind.i64.wrap ((sv.length : Int) - 1) = i := by rw [i64_w, hi]; exact wrap_id (by omega) (by have := hn.2.2.1; simp only at this; omega)
  have hi0 : (0 ≤ i) = True := eq_true (by omega)
  have hi1 : (i < (sv.length : Int)) = True := eq_true (by omega)
  rw [← hi] at hR1 hcc
  rw [← hin] at hR1 hcc
  generalize hxx : rd_T42 sv i = x at hR1 hcc
  replace hin := aM hin
  replace hi := aM hi
  replace hxx := aM hxx
  replace hR := aM hR1
  clear hR1
  refine sta 15 [14] (l11 (ad.add (i.toNat * 11)) x (.slice A0 x.f0.length C0) (.slice A5 x.f2.length C5)) a2 (l11_of hcc) F (fun w0 hb0 F hHeld => ?_)
  refine pV 0 ?_
  refine pV 1 ?_
  refine pV 2 ?_
  refine pV 3 ?_
  refine pV 5 ?_
  refine pV 6 ?_
  refine pV 7 ?_
  refine tV 4 ?_
  refine tV 8 ?_
  refine pV 9 ?_
  refine pV 10 ?_
  refine pV 11 ?_
  refine tV 12 ?_
  refine pV 13 ?_
  replace a2 := aM hHeld.1
  refine sV 14 ?_
  refine done_ (by kernel_rfl) ?_
  clear hz
  obtain ⟨i0, hi4, _, _, _⟩ := info_parts info42
  have hcut := cut_to (P := Tryz.prog) 43 42 .i64 Tryz.underlying43 hi4 (some ad) sv.length vC i (by rw [hi.out]; omega) (by rw [hi.out]; omega) hcap
  have hi2 : (i ≤ (sv.length : Int)) = True := eq_true (by rw [hi.out]; omega)
  have hz := cz13 a2
  try go_wp2
  refine sta (w0 := w) (lk := [a]) (B := B) 15 [14] [] ⟨(kR a2 : _ = some (Obj.cells #[.slice sA st.length sC, .int .i64 x.f1.f0, .int .i64 x.f1.f1, .int .i64 x.f1.f2, .int .i64 x.f1.f3, .slice A5 x.f2.length C5, .int .i64 x.f3, .int .i64 x.f4.f0, .int .i64 x.f4.f1, .int .i64 x.f4.f2, .int .i64 x.f4.f3, .slice (some ad) sv.length vC, o] 46 (0, 0)))⟩ (by simp) ⟨?_⟩ (fun w5 hb5 F5 hHeld => ?_)
  · repeat (first | (with_reducible exact F.out) | (with_reducible refine Fr.set ?_ _ _ (by simp) ha))
  clear hz
  refine pV 0 ?_
  refine pV 1 ?_
  refine pV 2 ?_
  refine pV 3 ?_
  refine pV 5 ?_
  refine pV 6 ?_
  refine pV 7 ?_
  refine tV 4 ?_
  refine tV 8 ?_
  refine pV 9 ?_
  refine pV 10 ?_
  refine pV 11 ?_
  refine pV 12 ?_
  refine pV 13 ?_
  replace a2 := aM hHeld.1
  refine sV 14 ?_
  refine done_ (by kernel_rfl) ?_
  try go_wp2
  go_ret
  refine fin_ (w1 := w) (q := ⟨⟨st, x.f1, x.f2, x.f3, x.f4⟩, sv.take i.toNat, ob⟩) (by simp [paint, hnm, e0, ← hi.out, hxx.out]) hR.out (Below.refl _ _) a0 rfl ?_ (kR a2)
  repeat (first | (with_reducible exact F5.out) | (with_reducible refine Fr.set ?_ _ _ (by simp) ha))
theorem pt_rect {nm : ByteArray} {ad : Addr} {x y u z : Int} {C B a : Nat} {P : Pg} {w : World} (h : Pre w B a P) (hl : LdL w ad [x, y, u, z]) (hnm : nm.toList = [114, 101, 99, 116]) : Calls Tryz.prog 44 #[.pointer (some ⟨a, 0, none⟩), .string nm, .slice (some ad) 4 C] w (Pt w B a (paint P nm [x, y, u, z])) := by
  obtain ⟨⟨st, ⟨t0, t1, t2, t3⟩, pa, gr, ⟨x0, y0, x1, y1⟩⟩, sv, ob⟩ := P
  obtain ⟨⟨c, s, p, v, o, hR, hb⟩, ha, hB, hq, hn⟩ := h
  dsimp only at hR hb hq
  have a2 := aM hb
  have F := aM (Fr.refl [a] B w)
  replace hR := aM hR
  have hp : paint ⟨⟨st, ⟨t0, t1, t2, t3⟩, pa, gr, ⟨x0, y0, x1, y1⟩⟩, sv, ob⟩ nm [x, y, u, z] = if inB u 0 200 = true ∧ inB z 0 200 = true then some ⟨⟨st, ⟨t0, t1, t2, t3⟩, rectP ⟨t0, t1, t2, t3⟩ [x, y, u, z], gr, ⟨x0, y0, x1, y1⟩⟩, sv, ob⟩ else none := by simp [paint, hnm, rd]
  generalize paint ⟨⟨st, ⟨t0, t1, t2, t3⟩, pa, gr, ⟨x0, y0, x1, y1⟩⟩, sv, ob⟩ nm [x, y, u, z] = r at hp ⊢
  replace hp := aM hp
  go_enter Tryz.func44, Tryz.ntmps44
  try go_wp2
  refine sta 16 [] _ a2 hl F (fun w0 hb0 F hHeld => ?_)
  refine pV 0 ?_
  refine pV 1 ?_
  refine pV 3 ?_
  refine pV 4 ?_
  refine pV 6 ?_
  refine pV 7 ?_
  refine pV 9 ?_
  refine pV 10 ?_
  refine tV 2 ?_
  refine pV 12 ?_
  refine tV 5 ?_
  refine pV 13 ?_
  refine tV 8 ?_
  refine pV 14 ?_
  refine tV 11 ?_
  refine pV 15 ?_
  refine done_ (by kernel_rfl) ?_
  replace a2 := aM hHeld.1
  cases e1 : inB u 0 200 with
  | false =>
    go_wp2_with (first | ((with_reducible refine gC 83 ?_); refine cM (some 128) Tryz.func83 (impl_within.calls u 0 200 _ _ (by rw [within_eq, e1])) ?_; rintro e w' ⟨rfl, ⟨nd, rfl⟩⟩; refine ⟨_, rfl, ?_⟩))
    go_ret
    exact fno_ (by rw [hp.out]; simp [e1]) F
  | true =>
    cases e2 : inB z 0 200 with
    | false =>
      go_wp2_with (first | ((with_reducible refine gC 83 ?_); refine cM (some 128) Tryz.func83 (impl_within.calls u 0 200 _ _ (by rw [within_eq, e1])) ?_; rintro e w' ⟨rfl, ⟨nd, rfl⟩⟩; refine ⟨_, rfl, ?_⟩) | (go_at_call 83; (with_reducible refine (impl_within.calls z 0 200 _ _ (by rw [within_eq, e2])).mono ?_); rintro e w' ⟨rfl, ⟨nd, rfl⟩⟩))
      go_ret
      exact fno_ (by rw [hp.out]; simp [e2]) F
    | true =>
      have hz := cz13 a2
      obtain ⟨L, hL0⟩ : ∃ L : List S111, L = [⟨x, y⟩, ⟨wrap64 (x + u), y⟩, ⟨wrap64 (x + u), wrap64 (y + z)⟩, ⟨x, wrap64 (y + z)⟩] := ⟨_, rfl⟩
      replace hL0 := aM hL0
      go_wp2_with (first | ((with_reducible refine gC 83 ?_); refine cM (some 128) Tryz.func83 (impl_within.calls u 0 200 _ _ (by rw [within_eq, e1])) ?_; rintro e w' ⟨rfl, ⟨nd, rfl⟩⟩; refine ⟨_, rfl, ?_⟩) | (go_at_call 83; (with_reducible refine (impl_within.calls z 0 200 _ _ (by rw [within_eq, e2])).mono ?_); rintro e w' ⟨rfl, ⟨nd, rfl⟩⟩) | ((with_reducible refine gate_dst (N := 158) rfl ?_); refine litQ (Reps.c2 (k111_mkM _ _ _ (⟨x, y⟩ : S111)) (Reps.c2 (k111_mkM _ _ _ (⟨wrap64 (x + u), y⟩ : S111)) (Reps.c2 (k111_mkM _ _ _ (⟨wrap64 (x + u), wrap64 (y + z)⟩ : S111)) (Reps.c2 (k111_mkM _ _ _ (⟨x, wrap64 (y + z)⟩ : S111)) (Reps.none _ _))))) (fun lA lC w4 hL hb4 => ?_) (N := 158) (hN := rfl); obtain ⟨hs4, F4⟩ := litF (by repeat (first | (with_reducible exact F.out) | (with_reducible refine Fr.set ?_ _ _ (by simp) ha) | (with_reducible refine Fr.drewN ?_ _)) : Fr [a] B w _) hB hb4; have a4 := kO a #[s, .int .i64 t0, .int .i64 t1, .int .i64 t2, .int .i64 t3, .slice none 0 0, .int .i64 gr, .int .i64 x0, .int .i64 y0, .int .i64 x1, .int .i64 y1, v, o] 46 hb4; clear hz; rw [← hL0.out] at hL; have hL5 := aM (Kd.R_lower (Kd.R_mono (Kd.R_bound hL) (fun k hk => tint_new (c := c) (i := 5) (Nat.le_trans hs4 hk.2.1))) (Nat.le_trans hB hs4)); clear hL hb4))
      have hL4 : L.length = 4 := by rw [hL0.out]; rfl
      rw [hL4] at hL5
      have hR5 := aM ((hR.out.dye 5).on (Alien.one ⟨hb⟩) F4.out.on).nilP
      have HB5 := aM F4.out.bl
      obtain ⟨M, hM⟩ : ∃ M : List S111, M = L.map (fun z => mvP ⟨t0, t1, t2, t3⟩ z.f0 z.f1) := ⟨_, rfl⟩
      have hM4 : M.length = 4 := by rw [hM, List.length_map, hL4]
      replace hM := aM hM
      replace hM4 := aM hM4
      replace hL4 := aM hL4
      clear a2 hHeld hR F F4
      generalize tint c w.heap.size 5 = c5 at hL5 hR5
      go_loopg [160] 4 (fun kq vv w' => ∃ (j : Nat) (c5 : Nat → Nat) (pv : Value), vv = .int .i64 (j : Int) ∧ Aside0 (kq + j = 4) ∧ Aside0 (Below B w w') ∧ Aside0 (Rw w' B c5 s pv v o st (M.take j) sv ob) ∧ Aside0 (Kd.R k111 111 w' B (fun k => c5 k = 5) (.slice lA 4 lC) L) ∧ Aside0 (w'.heap[a]? = some (.cells #[s, .int .i64 t0, .int .i64 t1, .int .i64 t2, .int .i64 t3, pv, .int .i64 gr, .int .i64 x0, .int .i64 y0, .int .i64 x1, .int .i64 y1, v, o] 46 (0, 0))))
      case atStart => exact ⟨0, c5, .slice none 0 0, rfl, ⟨rfl⟩, HB5, hR5, hL5, a4⟩
      case round =>
        obtain ⟨j, c5, pv, rfl, hj, HB, hR, hL, a2⟩ := hrel
        by_cases hj4 : j < 4
        · obtain ⟨la, rfl, hq0, hq1⟩ := at_T111 (Kd.R_reads' hL.out).2.2 (j : Int) (by omega) (by have := hL4.out; omega)
          simp only [Int.toNat_natCast] at hq0 hq1
          have hi0 : (0 ≤ (j : Int)) = True := eq_true (by omega)
          have hi1 : ((j : Int) < 4) = True := eq_true (by omega)
          have hi2 : IntKind.i64.wrap ((j : Int) + 1) = (j : Int) + 1 := by rw [i64_w]; exact wrap_id (by omega) (by omega)
          have hMj : M.take (j + 1) = M.take j ++ [mvP ⟨t0, t1, t2, t3⟩ (rd_T111 L (j : Int)).f0 (rd_T111 L (j : Int)).f1] := by
            have h4 := hL4.out
            rw [hM.out, ← List.map_take, ← List.map_take, List.take_succ_eq_append_getElem (by omega), List.map_append]
            simp [rd_T111, List.getD_eq_getElem?_getD, show j < L.length by omega]
          replace hMj := aM hMj
          generalize rd_T111 L (j : Int) = q at hq0 hq1 hMj
          obtain ⟨kk, hmv⟩ := iMoved_ev ⟨t0, t1, t2, t3⟩ q.f0 q.f1 hq.1 hq.2
          replace hmv := hmv kk (Nat.le_refl _)
          have hBr : B ≤ wr.heap.size := Nat.le_trans hB HB.out.size
          try go_wp2_with (first | ((with_reducible refine gD 13 ?_); refine bxE #[.int .i64 0, .int .i64 0] 111 ?_; intro h7 hg w5 b2 hb; have e3 := nL_ a hg; have e4 := nG_ a hg; have e5 : wr.heap.size ≤ h7 := Nat.le_of_eq hg.symm; replace a2 := kB_ a hb; replace hR := aM ((hR.out.dye 9).below hb); replace hL := aM (Kd.R_below (R_dye (i := 9) hL.out) hb); replace HB := aM (below_then HB.out hBr hb); clear hb hg; have hz := nP e3 e4; have hz2 := cz2 b2))
          have e6 : 6 ≤ tint c5 wr.heap.size 9 h7 := by rw [tint_new e5]; decide
          generalize tint c5 wr.heap.size 9 = c9 at hR hL e6
          have hB5 : B ≤ w5.heap.size := Nat.le_trans hB HB.out.size
          have hB7 : B ≤ h7 := Nat.le_trans hBr e5
          clear hz hz2
          refine sta (w0 := w5) (lk := [h7, a]) (B := B) 16 [12, 15] [(⟨h7, 0, none⟩, .int .i64 q.f0), (⟨h7, 1, none⟩, .int .i64 q.f1)] ⟨(kS : _ = some (Obj.cells #[s, .int .i64 t0, .int .i64 t1, .int .i64 t2, .int .i64 t3, pv, .int .i64 gr, .int .i64 x0, .int .i64 y0, .int .i64 x1, .int .i64 y1, v, o] 46 (0, 0)))⟩ ?_ ⟨Fr.set (Fr.set (Fr.refl _ _ _) _ _ (by simp) hB7) _ _ (by simp) hB7⟩ (fun w6 hb6 F hHeld => ?_)
          · have hz := cz2 (aM (kS : (((w5.setCell ⟨h7, 0, none⟩ (.int .i64 q.f0)).setCell ⟨h7, 1, none⟩ (.int .i64 q.f1)).heap[h7]? = some (Obj.cells #[.int .i64 q.f0, .int .i64 q.f1] 111 (0, 0)))))
            simp [hz]
          refine pV 0 ?_
          refine pV 1 ?_
          refine pV 2 ?_
          refine pV 3 ?_
          refine pV 5 ?_
          refine pV 6 ?_
          refine pV 7 ?_
          refine tV 4 ?_
          refine tV 8 ?_
          refine tV 9 ?_
          refine qV 10 Tryz.func89 (impl_moved.calls kk t0 t1 t2 t3 q.f0 q.f1 _ _ _ hmv) F hB5 hHeld (fun w7 hb F hHeld => ?_)
          refine oV 11 (fun K hK => ?_)
          refine aV hK (hHeld.alloc _) (fun hHeld2 => ?_)
          clear hK K hHeld2
          have hal : Alien c9 w5 [h7, a] := .dyed e6 (.one a2)
          have hR7 := hR.out.on hal F.out.on
          have hL7 := R_al hL.out hal (by decide) (fun _ => lt4 (by decide)) F.out.on
          refine lV 12 (fun K hK => ?_)
          refine hR7.appP (.tmp 168) (.tmp 175) _ _ F.out.bl (Nat.le_trans hB5 F.out.on.1) (by rfl) rfl Tryz.underlying39 info111 rfl rfl (by have := hM4.out; rw [List.length_take]; omega) (fun pB pN pD w8 hR3 hb8 ht => ?_)
          obtain ⟨c, hR8, hL8⟩ := hR3
          replace hL8 := hL8 _ _ hL7
          replace a2 := aM (ht _ _ _ hHeld.1 (by decide))
          replace HB := aM (HB.out.trans hb8)
          have hR8 : Rw w8 B c s (.slice pB pN pD) v o st (M.take (j + 1)) sv ob := by rw [hMj.out]; exact hR8
          refine hy hK ?_
          clear hK K
          refine pV 13 ?_
          refine pV 14 ?_
          refine sV 15 ?_
          refine done_ (by kernel_rfl) ?_
          try go_wp2
          go_roundg (3 - j)
          case measure => have := hj.out; omega
          case rel => exact ⟨j + 1, c, .slice pB pN pD, by simp, ⟨by omega⟩, ⟨HB.out.setCell ha _⟩, ⟨hR8.on (Alien.one a2) (OnL_set (OnL_refl _ _) _ _ (by simp))⟩, ⟨R_al hL8 (Alien.one a2) (by decide) (fun _ => lt4 (by decide)) (OnL_set (OnL_refl _ _) _ _ (by simp))⟩, ⟨kR a2⟩⟩
        · have hj5 : j = 4 := by have := hj.out; omega
          subst hj5
          rw [List.take_of_length_le (by rw [hM4.out]; omega)] at hR
          try go_wp2
          go_ret
          exact fin_ (q := ⟨⟨st, ⟨t0, t1, t2, t3⟩, M, gr, ⟨x0, y0, x1, y1⟩⟩, sv, ob⟩) (by rw [hp.out, if_pos ⟨e1, e2⟩, hM.out, hL0.out]; simp [rectP, rd, mvP]) hR.out HB.out a2
end Go.Proofs.YtjkgponlahfnjaaGreat.Ex
namespace Go.Proofs.YtjkgponlahfnjaaGreat.Ex
open Go.RowKit Go.Proofs.YtjkgponlahfnjaaGreatW.PrintWords Go.Proofs.YtjkgponlahfnjaaGreatW.PrintLast Go.Proofs.YtjkgponlahfnjaaGreatW.PrintMore
open Go.Proofs.YtjkgponlahfnjaaGreat.QFnExactRunPage Go.Proofs.YtjkgponlahfnjaaGreat.Pure Go.Proofs.YtjkgponlahfnjaaGreat.Plain
theorem ldL_of {w : World} {A : Option Addr} {l : List Int} (h : Kd.C (Kd.int .i64) w A l.length l) (h0 : 0 < l.length) : ∃ ad, A = some ad ∧ LdL w ad l := by
  obtain ⟨ad, rfl, _⟩ := Kd.at_int h 0 (by omega) (by omega)
  have c : ∀ j : Nat, j < l.length → w.cell? (ad.add j) = some (.int .i64 (rd l (j : Int))) := fun j hj => by
    obtain ⟨ad', e, hc⟩ := Kd.at_int h (j : Int) (by omega) (by omega)
    obtain rfl := Option.some.inj e
    exact hc
  refine ⟨ad, rfl, fun x hx => ?_⟩
  have ex : ∀ j : Nat, 0 < j → ad.add j = ⟨ad.block, ad.off + j, none⟩ := fun j hj => by
    have := add_field ad 0 j hj
    rwa [Nat.zero_add, Addr.add_zero'] at this
  have c0 : 0 < l.length → w.cell? ad = some (.int .i64 (rd l 0)) := fun h => by have := c 0 h; rwa [Addr.add_zero'] at this
  have c1 : 1 < l.length → w.cell? ⟨ad.block, ad.off + 1, none⟩ = some (.int .i64 (rd l 1)) := fun h => by have := c 1 h; rwa [ex 1 (by decide)] at this
  have c2 : 2 < l.length → w.cell? ⟨ad.block, ad.off + 2, none⟩ = some (.int .i64 (rd l 2)) := fun h => by have := c 2 h; rwa [ex 2 (by decide)] at this
  have c3 : 3 < l.length → w.cell? ⟨ad.block, ad.off + 3, none⟩ = some (.int .i64 (rd l 3)) := fun h => by have := c 3 h; rwa [ex 3 (by decide)] at this
  match l, h0, hx, c0, c1, c2, c3 with
  | [a], _, hx, c0, _, _, _ => simp only [ldl, List.mem_singleton] at hx; subst hx; exact c0 (by simp)
  | [a, b], _, hx, c0, c1, _, _ =>
    simp only [ldl, List.mem_cons, List.not_mem_nil, or_false] at hx
    rcases hx with rfl | rfl
    · exact c0 (by simp)
    · exact c1 (by simp)
  | [a, b, c, d], _, hx, c0, c1, c2, c3 =>
    simp only [ldl, List.mem_cons, List.not_mem_nil, or_false] at hx
    rcases hx with rfl | rfl | rfl | rfl
    · exact c0 (by simp)
    · exact c1 (by simp)
    · exact c2 (by simp)
    · exact c3 (by simp)
  | [a, b, c], _, hx, _, _, _, _ => simp [ldl] at hx
  | a :: b :: c :: d :: e :: m, _, hx, _, _, _, _ => simp [ldl] at hx
theorem len1 {l : List Int} (h : (l.length : Int) = 1) : ∃ x, l = [x] := by
  match l, h with
  | [x], _ => exact ⟨x, rfl⟩
  | [], h => simp at h
  | x :: y :: m, h => simp at h; omega
theorem len2 {l : List Int} (h : (l.length : Int) = 2) : ∃ x y, l = [x, y] := by
  match l, h with
  | [x, y], _ => exact ⟨x, y, rfl⟩
  | [], h => simp at h
  | [x], h => simp at h
  | x :: y :: z :: m, h => simp at h; omega
theorem len4 {l : List Int} (h : (l.length : Int) = 4) : ∃ x y u z, l = [x, y, u, z] := by
  match l, h with
  | [x, y, u, z], _ => exact ⟨x, y, u, z, rfl⟩
  | [], h => simp at h
  | [x], h => simp at h
  | [x, y], h => simp at h
  | [x, y, z], h => simp at h
  | x :: y :: z :: u :: v :: m, h => simp at h; omega
theorem len0 {l : List Int} (h : (l.length : Int) = 0) : l = [] := List.eq_nil_of_length_eq_zero (by omega)
theorem ite_c {c : Prop} [Decidable c] {x y : Int × Bool} {n : Int} {Q : Prop} (h1 : c → n = x.1 → Q) (h2 : y.2 = true → n = y.1 → Q) (hb : (if c then x else y).2 = true) (hn : n = (if c then x else y).1) : Q := by
  by_cases h : c
  · rw [if_pos h] at hn; exact h1 h hn
  · rw [if_neg h] at hb hn; exact h2 hb hn
theorem painted_c {nm : ByteArray} {A : Option Addr} {C B a : Nat} {P : Pg} {w : World} {l : List Int} (h : Pre w B a P) (hl : Kd.C (Kd.int .i64) w A l.length l) (hnm : (takenV nm).2 = true) (hlen : (l.length : Int) = (takenV nm).1) : Calls Tryz.prog 44 #[.pointer (some ⟨a, 0, none⟩), .string nm, .slice A l.length C] w (Pt w B a (paint P nm l)) := by
  unfold takenV at hnm hlen
  refine ite_c (fun e hlen => ?_) (fun hnm hlen => ?_) hnm hlen
  · obtain rfl := len0 hlen; exact pt_new h e
  refine ite_c (fun e hlen => ?_) (fun hnm hlen => ?_) hnm hlen
  · obtain rfl := len0 hlen; exact pt_fill h e
  refine ite_c (fun e hlen => ?_) (fun hnm hlen => ?_) hnm hlen
  · obtain rfl := len0 hlen; exact pt_clip h e
  refine ite_c (fun e hlen => ?_) (fun hnm hlen => ?_) hnm hlen
  · obtain rfl := len0 hlen; exact pt_save h e
  refine ite_c (fun e hlen => ?_) (fun hnm hlen => ?_) hnm hlen
  · obtain rfl := len0 hlen; exact pt_restore h e
  refine ite_c (fun e hlen => ?_) (fun hnm hlen => ?_) hnm hlen
  · obtain ⟨x, rfl⟩ := len1 hlen; obtain ⟨ad, rfl, hd⟩ := ldL_of hl (by simp); exact pt_gray h hd e
  refine ite_c (fun e hlen => ?_) (fun hnm hlen => ?_) hnm hlen
  · obtain ⟨x, rfl⟩ := len1 hlen; obtain ⟨ad, rfl, hd⟩ := ldL_of hl (by simp); exact pt_turn h hd (.inr ⟨.inl e, x, rfl⟩)
  refine ite_c (fun e hlen => ?_) (fun hnm hlen => ?_) hnm hlen
  · obtain ⟨x, rfl⟩ := len1 hlen; obtain ⟨ad, rfl, hd⟩ := ldL_of hl (by simp); exact pt_turn h hd (.inr ⟨.inr e, x, rfl⟩)
  refine ite_c (fun e hlen => ?_) (fun hnm hlen => ?_) hnm hlen
  · obtain ⟨x, y, rfl⟩ := len2 hlen; obtain ⟨ad, rfl, hd⟩ := ldL_of hl (by simp); exact pt_moveto h hd e
  refine ite_c (fun e hlen => ?_) (fun hnm hlen => ?_) hnm hlen
  · obtain ⟨x, y, rfl⟩ := len2 hlen; obtain ⟨ad, rfl, hd⟩ := ldL_of hl (by simp); exact pt_lineto h hd e
  refine ite_c (fun e hlen => ?_) (fun hnm hlen => ?_) hnm hlen
  · obtain ⟨x, y, rfl⟩ := len2 hlen; obtain ⟨ad, rfl, hd⟩ := ldL_of hl (by simp); exact pt_turn h hd (.inl ⟨e, x, y, rfl⟩)
  refine ite_c (fun e hlen => ?_) (fun hnm hlen => ?_) hnm hlen
  · obtain ⟨x, y, u, z, rfl⟩ := len4 hlen; obtain ⟨ad, rfl, hd⟩ := ldL_of hl (by simp); exact pt_rect h hd e
  exact absurd hnm (by decide)
end Go.Proofs.YtjkgponlahfnjaaGreat.Ex
