/- The law of RunPage. -/
import Derived.Test.YtjkgponlahfnjaaGreatExRq
import Derived.Test.YtjkgponlahfnjaaGreatExFl
set_option linter.unusedVariables false
set_option linter.unusedSimpArgs false
set_option maxHeartbeats 8000000
set_option maxRecDepth 100000
namespace Go.Proofs.YtjkgponlahfnjaaGreat.Ex
open Go.RowKit Go.Proofs.YtjkgponlahfnjaaGreatW.PrintWords Go.Proofs.YtjkgponlahfnjaaGreatW.PrintLast Go.Proofs.YtjkgponlahfnjaaGreatW.PrintMore
open Go.Proofs.YtjkgponlahfnjaaGreat.QFnExactRunPage Go.Proofs.YtjkgponlahfnjaaGreat.Pure Go.Proofs.YtjkgponlahfnjaaGreat.Plain
attribute [local go_sem] Tryz.underlying46 Tryz.underlying50
section
variable {w w1 : World} {g B N : Nat} {E : Pg} {s p v o u : Value} {m m' : List S50}
def TkB (w : World) (B : Nat) : Nat → Prop := fun k => B ≤ k ∧ k < w.heap.size ∧ ∃ cs, w.heap[k]? = some (.cells cs 50 (0, 0))
theorem R50_bd (h : Kd.R k50 50 w B (fun _ => True) u m) : Kd.R k50 50 w B (TkB w B) u m := Kd.R_mono (Kd.R_bound h) (fun k ⟨_, h1, h2, q, hq, cs, hx⟩ => ⟨h1, h2, cs, by
  have : q = 50 := List.mem_singleton.1 (show q ∈ [50] from hq)
  rw [this] at hx; exact hx⟩)
theorem R50_on (h : Kd.R k50 50 w B (fun _ => True) u m) {cs : Array Value} (hg : w.heap[g]? = some (.cells cs 46 (0, 0))) (hW : OnL [g] w w1) : Kd.R k50 50 w1 B (fun _ => True) u m :=
  Kd.R_mono (Kd.R_step (R50_bd h) (fun k hk hl => hW.2 k hl (fun hm => by
    obtain ⟨_, _, cs', hx⟩ := hk
    rw [List.mem_singleton.1 hm, hg] at hx
    injection hx with hx
    injection hx with _ hx
    exact absurd hx (by decide)))) (fun _ _ => trivial)
theorem VP.tk (h : VP w g E B N s p v o) {B' : Nat} (hk : Kept w w1 (TkB w B')) : VP w1 g E B N s p v o := by
  refine ⟨blk_kept h.a hk (fun ⟨_, _, cs, hx⟩ => ?_), h.O.keep hk.1 (fun k h1 h2 ht => hk.2 k (Nat.lt_of_lt_of_le h2 h.O.hN) (fun ⟨_, _, cs, hx⟩ => ?_)), h.hBN⟩
  · rw [h.a] at hx
    injection hx with hx
    injection hx with _ hx
    exact absurd hx (by decide)
  · obtain ⟨cs', t, h3, h4⟩ := ht
    rw [hx] at h3
    injection h3 with h3
    injection h3 with _ h3
    exact absurd (h3 ▸ h4) (by decide)
end
theorem law_r {w : World} {A : Option Addr} {C : Nat} {l : List S35} (h : Kd.C k35 w A l.length l) (hc : l.length ≤ C) (hm : l.length ≤ maxLen) (hx : ∀ x ∈ l, x.f0.size ≤ maxLen) : Calls Tryz.prog 4 #[.slice A l.length C] w (fun e w' => e = .returned (.bool true) ∧ Below w.heap.size w w') := by
  replace h := aM h
  obtain ⟨ks, hks⟩ := szTokenS_ev l 1048576 hm hx (by decide) (by decide)
  replace hks := hks ks (Nat.le_refl _)
  have hsz := szTS_tells l 1048576 (by decide) (by decide)
  have HB := aM (Below.refl w.heap.size w)
  generalize szTS l 1048576 = L at hks hsz
  go_enter Tryz.func4, Tryz.ntmps4
  go_upto_region 3 with (first | ((with_reducible refine gC 14 ?_); refine cM (some 16) Tryz.func14 (laws_szTokenS.calls ks A C l 1048576 L _ (Kd.C_below h.out HB.out) hc hks) ?_; rintro e w1 ⟨rfl, hb⟩; refine ⟨_, rfl, ?_⟩; replace HB := hB hb; clear hb))
  rcases hsz with rfl | ⟨hL, hl, hn⟩
  · go_wp2
    go_ret
    exact ⟨rfl, bS⟩
  have hLn : ¬ L < 0 := by omega
  go_upto_region 5 with (fail)
  clear hLn hks hm hx
  obtain ⟨kt, hkt⟩ := toTokenS_ev l hl
  replace hkt := hkt kt (Nat.le_refl _)
  have TT := fun w' (h : Kd.C k35 w' A l.length l) => laws_toTokenS.calls kt A C l _ w' h hc hkt
  have hml : (l.map tTk).length ≤ 1048576 := by rw [List.length_map]; omega
  have hmn : ∀ t ∈ l.map tTk, t.f0.size ≤ 2000000 := fun t ht => by
    obtain ⟨x, hx, rfl⟩ := List.mem_map.1 ht
    exact Nat.le_trans (hn x hx) (by decide)
  clear hkt hL hn
  generalize l.map tTk = m at TT hml hmn
  have hEn := runPageV_n m
  have CS := fun w' A C (h : Kd.C k50 w' A m.length m) (hc : m.length ≤ C) => srun_c h hc (Nat.le_trans hml (by decide)) hmn
  have CI := fun w' A C (h : Kd.C k50 w' A m.length m) (hc : m.length ≤ C) => irun_c h hc (Nat.le_trans hml (by decide))
  generalize runPageV m = R at hEn CS CI
  obtain ⟨E, i⟩ := R
  dsimp only at hEn CS CI
  (try simp only [Act.put, List.setIfInBounds_toArray, List.set_cons_zero, List.set_cons_succ])
  go_cut [4, 5] (fun v4 v5 wc => ∃ (g : Nat) (s1 p1 v1 o1 : Value) (B N : Nat), v4 = .pointer (some ⟨g, 0, none⟩) ∧ v5 = .int .i64 i ∧ Aside0 (Below w.heap.size w wc) ∧ Aside0 (VP wc g E B N s1 p1 v1 o1))
  case first =>
    go_wp2_with (first | ((with_reducible refine gC 16 ?_); refine cM (some 21) Tryz.func16 (TT _ (Kd.C_below h.out HB.out)) ?_; rintro e w2 ⟨v0, rfl, hv, hb⟩; refine ⟨_, rfl, ?_⟩; obtain ⟨xA, xC, rfl⟩ := Kd.R_slice hv; replace HB := hB hb; clear hb) | ((with_reducible refine gC 15 ?_); refine cM (some 22) Tryz.func15 (CS _ xA xC (Kd.R_reads' hv).2.2 (Kd.R_reads' hv).2.1) ?_; rintro e w3 ⟨x, rfl, hnp⟩; obtain ⟨hb, s1, p1, v1, o1, rfl, hO⟩ := hnp.own; have hBN := hb.size; refine ⟨_, rfl, ?_⟩; replace HB := hB hb; clear hb hnp hv; obtain ⟨sA, sC, pA, pC, vA, vC, oA, oC, rfl, rfl, rfl, rfl⟩ := hO.sl; simp only [cels]) | ((with_reducible refine gD 4 ?_); refine bxE #[.slice none 0 0, .int .i64 0, .int .i64 0, .int .i64 0, .int .i64 0, .slice none 0 0, .int .i64 0, .int .i64 0, .int .i64 0, .int .i64 0, .int .i64 0, .slice none 0 0, .slice none 0 0] 46 ?_; intro g hg w4 a4 hb; have gE4 := gE hg; replace HB := hB hb; replace hO := hO.below hb; clear hb hg; have hz4 := cz13 a4))
    go_meet
    case rel => exact ⟨g, _, _, _, _, _, _, rfl, rfl, ⟨bS⟩, ⟨⟨kR a4, hO.on (Alien.one a4) onL, hBN⟩⟩⟩
  case rest =>
  obtain ⟨g4, s4, p4, v4, o4, B4, N4, rfl, rfl, HB, V4⟩ := hcut
  go_upto_region 7 with (first | ((with_reducible refine gC 16 ?_); refine cM (some 26) Tryz.func16 (TT _ (Kd.C_below h.out HB.out)) ?_; rintro e w2 ⟨v0, rfl, hX, hb⟩; refine ⟨_, rfl, ?_⟩; obtain ⟨xA, xC, rfl⟩ := Kd.R_slice hX; replace hX := Kd.R_lower hX HB.out.size; replace V4 := aM (V4.out.below hb); replace HB := hB hb; clear hb))
  (try simp only [Act.put, List.setIfInBounds_toArray, List.set_cons_zero, List.set_cons_succ])
  have hxC := (Kd.R_reads' hX).2.1
  replace hX := aM hX
  go_cut [7, 8] (fun v7 v8 wc => ∃ (g : Nat) (s1 p1 v1 o1 : Value) (B N : Nat), v7 = .pointer (some ⟨g, 0, none⟩) ∧ v8 = .int .i64 i ∧ Aside0 (Below w.heap.size w wc) ∧ Aside0 (VP wc g4 E B4 N4 s4 p4 v4 o4) ∧ Aside0 (Kd.R k50 50 wc w.heap.size (fun _ => True) (.slice xA m.length xC) m) ∧ Aside0 (VP wc g E B N s1 p1 v1 o1) ∧ Aside0 (N4 ≤ B) ∧ Aside0 (w.heap.size ≤ B))
  case first =>
    go_wp2_with (first | ((with_reducible refine gC 17 ?_); refine cM (some 29) Tryz.func17 (CI _ xA xC (Kd.R_reads' hX.out).2.2 hxC) ?_; rintro e w3 ⟨x, rfl, hnp⟩; obtain ⟨hb, s1, p1, v1, o1, rfl, hO⟩ := hnp.own; have hBN := hb.size; have h4B := V4.out.O.hN; have hwB := HB.out.size; refine ⟨_, rfl, ?_⟩; replace HB := hB hb; replace V4 := aM (V4.out.below hb); replace hX := aM (Kd.R_below hX.out hb); clear hb hnp; obtain ⟨sA, sC, pA, pC, vA, vC, oA, oC, rfl, rfl, rfl, rfl⟩ := hO.sl; simp only [cels]) | ((with_reducible refine gD 7 ?_); refine bxE #[.slice none 0 0, .int .i64 0, .int .i64 0, .int .i64 0, .int .i64 0, .slice none 0 0, .int .i64 0, .int .i64 0, .int .i64 0, .int .i64 0, .int .i64 0, .slice none 0 0, .slice none 0 0] 46 ?_; intro g hg w4 a4 hb; have gE4 := gE hg; have n4 := Nat.ne_of_lt (hg ▸ blk_lt V4.out.a); replace HB := hB hb; replace V4 := aM (V4.out.below hb); replace hX := aM (Kd.R_below hX.out hb); replace hO := hO.below hb; clear hb hg; have hz4 := cz13 a4))
    go_meet
    case rel => exact ⟨g, _, _, _, _, _, _, rfl, rfl, ⟨bS⟩, ⟨V4.out.on onL a4.out n4⟩, ⟨R50_on hX.out a4.out onL⟩, ⟨⟨kR a4, hO.on (Alien.one a4) onL, hBN⟩⟩, ⟨h4B⟩, ⟨hwB⟩⟩
  case rest =>
  obtain ⟨g7, s7, p7, v7, o7, B7, N7, rfl, rfl, HB, V4, hX, V7, h47, hw7⟩ := hcut
  have hz4 := cz13 ⟨V4.out.a⟩
  have hz7 := cz13 ⟨V7.out.a⟩
  obtain ⟨ke, hke⟩ := eqTokenS_ev m (by rw [maxLen_eq]; omega)
  replace hke := hke ke (Nat.le_refl _)
  obtain ⟨m', hkm⟩ := markTokenS_ev m (by omega)
  obtain ⟨km, hkm⟩ : ∃ k, laws_markTokenS.f k m 1 = some (1 + 2 * (m.length : Int), m') := ⟨hkm.choose, hkm.choose_spec _ (Nat.le_refl _)⟩
  obtain ⟨KM, hKM, kM⟩ : ∃ z, z = 1 + 2 * (m.length : Int) ∧ ¬ z < 0 := ⟨_, rfl, by omega⟩
  rw [← hKM] at hkm
  clear hKM
  go_upto_region 12 with (first | ((with_reducible refine gC 11 ?_); refine cM (some 34) Tryz.func11 (eqPage_c V7.out.O.rd V4.out.O.rd hEn) ?_; rintro e w5 ⟨rfl, hb⟩; refine ⟨_, rfl, ?_⟩; replace HB := hB hb; replace V4 := aM (V4.out.below hb); replace V7 := aM (V7.out.below hb); replace hX := aM (Kd.R_below hX.out hb); clear hb hz4 hz7) | ((with_reducible refine gC 16 ?_); refine cM (some 43) Tryz.func16 (TT _ (Kd.C_below h.out HB.out)) ?_; rintro e w6 ⟨v0, rfl, hv, hb⟩; refine ⟨_, rfl, ?_⟩; obtain ⟨yA, yC, rfl⟩ := Kd.R_slice hv; replace HB := hB hb; replace V4 := aM (V4.out.below hb); replace V7 := aM (V7.out.below hb); replace hX := aM (Kd.R_below hX.out hb); clear hb) | ((with_reducible refine gC 18 ?_); refine cM (some 44) Tryz.func18 (laws_eqTokenS.calls ke xA xC m yA yC m true _ (Kd.R_reads' hX.out).2.2 hxC (Kd.R_reads' hv).2.2 (Kd.R_reads' hv).2.1 hke) ?_; rintro e w7 ⟨rfl, hb⟩; refine ⟨_, rfl, ?_⟩; replace HB := hB hb; replace V4 := aM (V4.out.below hb); replace V7 := aM (V7.out.below hb); replace hX := aM (Kd.R_below hX.out hb); clear hb hv))
  have kE := lnPg_nn hEn
  have ME := fun w' B N s p v o (h : OwnP w' B N E s p v o) (hB : B ≤ w'.heap.size) => markPage_c h hB hEn
  have HE := fun w' s p v o (h : RdP w' (mkPg 1 E) s p v o) => heldPage_c h hEn
  generalize 1 + lnPg E = KE at ME HE kE
  go_upto_region 24 with (first | ((with_reducible refine gC 19 ?_); refine cM (some 48) Tryz.func19 (laws_markTokenS.calls km _ _ m 1 KM m' w _ HB.out (R50_bd hX.out) hkm) ?_; rintro e w8 ⟨rfl, _, hb, hk⟩; refine ⟨_, rfl, ?_⟩; replace HB := aM hb; replace V4 := aM (V4.out.tk hk); replace V7 := aM (V7.out.tk hk); clear hb hk hX; have hz4 := cz13 ⟨V4.out.a⟩; have hz7 := cz13 ⟨V7.out.a⟩) | (go_at_call 11; refine (eqPage_c V7.out.O.rd V4.out.O.rd hEn).mono ?_; rintro e w9 ⟨rfl, hb⟩; replace HB := hB hb; replace V4 := aM (V4.out.below hb); replace V7 := aM (V7.out.below hb); clear hb hz4 hz7; have hz7 := cz13 ⟨V7.out.a⟩) | ((with_reducible refine gC 12 ?_); refine cM (some 64) Tryz.func12 (ME _ _ _ _ _ _ _ V7.out.O V7.out.le) ?_; rintro e w10 ⟨rfl, hO, hbB, hk⟩; refine ⟨_, rfl, ?_⟩; replace HB := aM (HB.out.trans (hbB.mono hw7.out)); replace V4 := aM (V4.out.kept hk (.inl h47.out)); replace V7 := Exists.intro (p := fun N => Aside0 (VP w10 g7 (mkPg 1 E) B7 N s7 p7 v7 o7)) _ (aM (VP.mk (E := mkPg 1 E) (keepB V7.out.a hk) hO (Nat.le_trans V7.out.le hk.1))); obtain ⟨N7', V7⟩ := V7; clear hz7 hO hbB hk; have hz7 := cz13 ⟨V7.out.a⟩) | ((with_reducible refine gC 13 ?_); refine cM (some 67) Tryz.func13 (HE _ _ _ _ _ V7.out.O.rd) ?_; rintro e w11 ⟨rfl, hb⟩; refine ⟨_, rfl, ?_⟩; replace HB := hB hb; replace V4 := aM (V4.out.below hb); replace V7 := aM (V7.out.below hb); clear hb hz7))
  (try simp only [Act.put, List.setIfInBounds_toArray, List.set_cons_zero, List.set_cons_succ])
  go_cut [12, 13] (fun v12 v13 wc => ∃ (g : Nat) (s1 p1 v1 o1 : Value) (B N : Nat), v12 = .pointer (some ⟨g, 0, none⟩) ∧ v13 = .int .i64 i ∧ Aside0 (Below w.heap.size w wc) ∧ Aside0 (VP wc g4 E B4 N4 s4 p4 v4 o4) ∧ Aside0 (VP wc g7 (mkPg 1 E) B7 N7' s7 p7 v7 o7) ∧ Aside0 (VP wc g E B N s1 p1 v1 o1))
  case first =>
    go_wp2_with (first | ((with_reducible refine gC 16 ?_); refine cM (some 75) Tryz.func16 (TT _ (Kd.C_below h.out HB.out)) ?_; rintro e w2 ⟨v0, rfl, hv, hb⟩; refine ⟨_, rfl, ?_⟩; obtain ⟨yA, yC, rfl⟩ := Kd.R_slice hv; replace HB := hB hb; replace V4 := aM (V4.out.below hb); replace V7 := aM (V7.out.below hb); clear hb) | ((with_reducible refine gC 17 ?_); refine cM (some 76) Tryz.func17 (CI _ yA yC (Kd.R_reads' hv).2.2 (Kd.R_reads' hv).2.1) ?_; rintro e w3 ⟨x, rfl, hnp⟩; obtain ⟨hb, s1, p1, v1, o1, rfl, hO⟩ := hnp.own; have hBN := hb.size; refine ⟨_, rfl, ?_⟩; replace HB := hB hb; replace V4 := aM (V4.out.below hb); replace V7 := aM (V7.out.below hb); clear hb hnp hv; obtain ⟨sA, sC, pA, pC, vA, vC, oA, oC, rfl, rfl, rfl, rfl⟩ := hO.sl; simp only [cels]) | ((with_reducible refine gD 12 ?_); refine bxE #[.slice none 0 0, .int .i64 0, .int .i64 0, .int .i64 0, .int .i64 0, .slice none 0 0, .int .i64 0, .int .i64 0, .int .i64 0, .int .i64 0, .int .i64 0, .slice none 0 0, .slice none 0 0] 46 ?_; intro g hg w4 a4 hb; have gE4 := gE hg; have n4 := Nat.ne_of_lt (hg ▸ blk_lt V4.out.a); have n7 := Nat.ne_of_lt (hg ▸ blk_lt V7.out.a); replace HB := hB hb; replace V4 := aM (V4.out.below hb); replace V7 := aM (V7.out.below hb); replace hO := hO.below hb; clear hb hg; have hz4 := cz13 a4))
    go_meet
    case rel => exact ⟨g, _, _, _, _, _, _, rfl, rfl, ⟨bS⟩, ⟨V4.out.on onL a4.out n4⟩, ⟨V7.out.on onL a4.out n7⟩, ⟨⟨kR a4, hO.on (Alien.one a4) onL, hBN⟩⟩⟩
  case rest =>
  obtain ⟨g12, s12, p12, v12, o12, B12, N12, rfl, rfl, HB, V4, V7, V12⟩ := hcut
  have hz4 := cz13 ⟨V4.out.a⟩
  have hz12 := cz13 ⟨V12.out.a⟩
  go_wp2_with (first | ((with_reducible refine gC 11 ?_); refine cM (some 81) Tryz.func11 (eqPage_c V12.out.O.rd V4.out.O.rd hEn) ?_; rintro e w5 ⟨rfl, hb⟩; refine ⟨_, rfl, ?_⟩; replace HB := hB hb; replace V7 := aM (V7.out.below hb); clear hb hz4 hz12; have hz7 := cz13 ⟨V7.out.a⟩) | ((with_reducible refine gC 13 ?_); refine cM (some 90) Tryz.func13 (HE _ _ _ _ _ V7.out.O.rd) ?_; rintro e w6 ⟨rfl, hb⟩; refine ⟨_, rfl, ?_⟩; replace HB := hB hb; clear hb hz7))
  go_ret
  exact ⟨rfl, HB.out⟩
end Go.Proofs.YtjkgponlahfnjaaGreat.Ex
namespace Go.Proofs.YtjkgponlahfnjaaGreat.Ex
open Go.RowKit Go.Proofs.YtjkgponlahfnjaaGreatW.PrintWords Go.Proofs.YtjkgponlahfnjaaGreatW.PrintLast Go.Proofs.YtjkgponlahfnjaaGreatW.PrintMore
open Go.Proofs.YtjkgponlahfnjaaGreat.QFnExactRunPage Go.Proofs.YtjkgponlahfnjaaGreat.Pure Go.Proofs.YtjkgponlahfnjaaGreat.Plain
theorem law_h (A : Option Addr) (C : Nat) (l : List S35) (w : World) (hC : Kd.C k35 w A l.length l) (hl : l.length ≤ C) (h : l.length ≤ maxLen ∧ ∀ y ∈ l, ((y.f0.size ≤ maxLen) ∧ ((Lit.int .i64 y.f1).wf = true))) :
    Calls Tryz.prog 4 #[.slice A l.length C] w (fun e w' => e = .returned (.bool true) ∧ Below w.heap.size w w') :=
  law_r hC hl h.1 (fun x hx => (h.2 x hx).1)
end Go.Proofs.YtjkgponlahfnjaaGreat.Ex
