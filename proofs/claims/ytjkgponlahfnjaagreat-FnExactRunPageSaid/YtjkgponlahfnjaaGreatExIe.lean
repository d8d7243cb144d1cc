/- impl.ExecToken. -/
import Derived.Test.YtjkgponlahfnjaaGreatExCp
import Derived.Test.YtjkgponlahfnjaaGreatExBd
import Derived.Test.YtjkgponlahfnjaaGreatExPt
set_option linter.unusedVariables false
set_option linter.unusedSimpArgs false
set_option maxHeartbeats 8000000
set_option maxRecDepth 100000
namespace Go.Proofs.YtjkgponlahfnjaaGreat.Ex
open Go.RowKit Go.Proofs.YtjkgponlahfnjaaGreatW.PrintWords Go.Proofs.YtjkgponlahfnjaaGreatW.PrintLast Go.Proofs.YtjkgponlahfnjaaGreatW.PrintMore
open Go.Proofs.YtjkgponlahfnjaaGreat.QFnExactRunPage Go.Proofs.YtjkgponlahfnjaaGreat.Pure Go.Proofs.YtjkgponlahfnjaaGreat.Plain
attribute [local go_sem] Tryz.underlying46 Tryz.underlying42 Tryz.underlying38 Tryz.underlying111 Tryz.underlying40 Tryz.underlying103 Tryz.underlying50
theorem iPageOkP_ev (p : Pg) (h : pgN 2000000 p) : Ev (fun k => impl_PageOk.f k p.g.f0 p.g.f1.f0 p.g.f1.f1 p.g.f1.f2 p.g.f1.f3 p.g.f2 p.g.f3 p.g.f4.f0 p.g.f4.f1 p.g.f4.f2 p.g.f4.f3 p.sv p.ob) (okP p) := by
  obtain ⟨h1, h2, h3, h4, h5, h6⟩ := h
  exact iPageOk_ev p.g.f0 p.g.f1.f0 p.g.f1.f1 p.g.f1.f2 p.g.f1.f3 p.g.f2 p.g.f3 p.g.f4.f0 p.g.f4.f1 p.g.f4.f2 p.g.f4.f3 p.sv p.ob (by rw [maxLen_eq]; omega) (by rw [maxLen_eq]; omega) (by rw [maxLen_eq]; omega) (fun x hx => by have := h4 x hx; rw [maxLen_eq]; omega) (by rw [maxLen_eq]; omega) (fun x hx => by have := h6 x hx; rw [maxLen_eq]; omega)
def Stp (w : World) (B a : Nat) (r : Option Pg) (b : Bool) : Prop := (b = true ∧ ∃ q, r = some q ∧ PgM w B a q) ∨ (b = false ∧ r = none)
theorem stp_ {w1 w' : World} {B a : Nat} {c : Nat → Nat} {s p v o : Value} {cs : Array Value} {sr : Option Pg} {b : Bool} (q : Pg) (hst : sr = if b = true then some q else none) (hR : Rw w1 B c s p v o q.g.f0 q.g.f2 q.sv q.ob) (a2 : Aside0 (w1.heap[a]? = some (.cells cs 46 (0, 0)))) (G : Fr [a] B w1 w' := by repeat (first | (with_reducible exact Fr.refl _ _ _) | (with_reducible refine Fr.set ?_ _ _ (by simp) (by assumption)) | (with_reducible refine Fr.drewN ?_ _)))
    (hk : w'.heap[a]? = some (.cells #[s, .int .i64 q.g.f1.f0, .int .i64 q.g.f1.f1, .int .i64 q.g.f1.f2, .int .i64 q.g.f1.f3, p, .int .i64 q.g.f3, .int .i64 q.g.f4.f0, .int .i64 q.g.f4.f1, .int .i64 q.g.f4.f2, .int .i64 q.g.f4.f3, v, o] 46 (0, 0)) := by exact kR a2) : Stp w' B a sr b := by
  have hm := PgM.mk hR a2 G hk
  cases b with
  | true => exact .inl ⟨rfl, q, hst, hm⟩
  | false => exact .inr ⟨rfl, hst⟩
theorem pre_ {w1 w' : World} {B a : Nat} {c : Nat → Nat} {s p v o : Value} {cs : Array Value} (q : Pg) (hR : Rw w1 B c s p v o q.g.f0 q.g.f2 q.sv q.ob) (a2 : Aside0 (w1.heap[a]? = some (.cells cs 46 (0, 0)))) (ha : B ≤ a) (hB : B ≤ w1.heap.size) (hq : 0 ≤ q.g.f1.f0 ∧ q.g.f1.f0 ≤ 3) (hn : pgN 100000 q) (G : Fr [a] B w1 w' := by repeat (first | (with_reducible exact Fr.refl _ _ _) | (with_reducible refine Fr.set ?_ _ _ (by simp) (by assumption)) | (with_reducible refine Fr.drewN ?_ _)))
    (hk : w'.heap[a]? = some (.cells #[s, .int .i64 q.g.f1.f0, .int .i64 q.g.f1.f1, .int .i64 q.g.f1.f2, .int .i64 q.g.f1.f3, p, .int .i64 q.g.f3, .int .i64 q.g.f4.f0, .int .i64 q.g.f4.f1, .int .i64 q.g.f4.f2, .int .i64 q.g.f4.f3, v, o] 46 (0, 0)) := by exact kR a2) : Pre w' B a q := ⟨PgM.mk hR a2 G hk, ha, Nat.le_trans hB G.on.1, hq, hn⟩
theorem Pt.toStp {w w' : World} {B a : Nat} {r : Option Pg} {e : Ending} (h : Pt w B a r e w') : Below B w w' ∧ ∃ b, e = .returned (.bool b) ∧ Stp w' B a r b := by
  obtain ⟨hb, ⟨q, h1, h2, h3⟩ | ⟨h1, h2⟩⟩ := h
  · exact ⟨hb, true, h2, .inl ⟨rfl, q, h1, h3⟩⟩
  · exact ⟨hb, false, h2, .inr ⟨rfl, h1⟩⟩
theorem blkB {w w' : World} {B g : Nat} {o : Obj} (hb : Below B w w') (hg : g < B) (h : w.heap[g]? = some o) : w'.heap[g]? = some o := (hb.block g hg).trans h
theorem iexec_c {w : World} {q : Pg} {s p v o : Value} {nm : ByteArray} {n : Int} (h : RdP w q s p v o) (hn : pgN 1048576 q) : Calls Tryz.prog 10 #[.agg (cels q s p v o), .agg #[.string nm, .int .i64 n]] w (fun e w' => ∃ x, e = .returned (.tuple #[x, .bool (exec q nm n).2]) ∧ NewP w (exec q nm n).1 x w') := by
  obtain ⟨⟨st, ⟨t0, t1, t2, t3⟩, pa, gr, ⟨x0, y0, x1, y1⟩⟩, sv, ob⟩ := q
  have hRd := h
  have hnn := hn
  obtain ⟨⟨sA, sC, rfl, hs, Hs⟩, ⟨pA, pC, rfl, hp, Hp⟩, ⟨vA, vC, rfl, hv, Hv⟩, ⟨oA, oC, rfl, ho, Ho⟩⟩ := h
  obtain ⟨n1, n2, n3, n4, n5, n6⟩ := hn
  dsimp only at hs hp hv ho Hs Hp Hv Ho n1 n2 n3 n4 n5 n6
  obtain ⟨k1, hk1⟩ := iPageOkP_ev ⟨⟨st, ⟨t0, t1, t2, t3⟩, pa, gr, ⟨x0, y0, x1, y1⟩⟩, sv, ob⟩ (pgN_mono hnn (by omega))
  replace hk1 := hk1 k1 (Nat.le_refl _)
  obtain ⟨k2, hk2⟩ := iTokenOk_ev nm n
  replace hk2 := hk2 k2 (Nat.le_refl _)
  obtain ⟨r, hr⟩ : ∃ r, r = exec ⟨⟨st, ⟨t0, t1, t2, t3⟩, pa, gr, ⟨x0, y0, x1, y1⟩⟩, sv, ob⟩ nm n := ⟨_, rfl⟩
  rw [← hr]
  replace hr := aM hr
  replace hRd := aM hRd
  replace hnn := aM hnn
  generalize hok : okP ⟨⟨st, ⟨t0, t1, t2, t3⟩, pa, gr, ⟨x0, y0, x1, y1⟩⟩, sv, ob⟩ = ok at hk1
  replace hok := aM hok
  generalize htk : tokOk nm n = tk at hk2
  replace htk := aM htk
  simp only [cels]
  have HB := aM (Below.refl w.heap.size w)
  go_enter Tryz.func10, Tryz.ntmps10
  go_upto_region 1 with (first | ((with_reducible refine gD 2 ?_); refine bxE #[.slice sA st.length sC, .int .i64 t0, .int .i64 t1, .int .i64 t2, .int .i64 t3, .slice pA pa.length pC, .int .i64 gr, .int .i64 x0, .int .i64 y0, .int .i64 x1, .int .i64 y1, .slice vA sv.length vC, .slice oA ob.length oC] 46 ?_; intro i7 hg w4 e9 hb; have f1 := gE hg; replace HB := hB hb; clear hb hg) | ((with_reducible refine gD 3 ?_); refine bxE #[.string nm, .int .i64 n] 50 ?_; intro j9 hg w5 e8 hb; have f2 := gE hg; have i1 := nL_ i7 hg; have i3 := nG_ i7 hg; replace e9 := kB_ i7 hb; replace HB := hB hb; clear hb hg) | ((with_reducible refine gD 4 ?_); refine bxE #[.slice none 0 0, .int .i64 0, .int .i64 0, .int .i64 0, .int .i64 0, .slice none 0 0, .int .i64 0, .int .i64 0, .int .i64 0, .int .i64 0, .int .i64 0, .slice none 0 0, .slice none 0 0] 46 ?_; intro g3 hg w6 e2 hb; have f3 := gE hg; have l4 := nL_ i7 hg; have l5 := nG_ i7 hg; have i4 := nL_ j9 hg; have i5 := nG_ j9 hg; replace e9 := kB_ i7 hb; replace e8 := kB_ j9 hb; replace HB := hB hb; clear hb hg))
  (try simp only [Act.put, List.setIfInBounds_toArray, List.set_cons_zero, List.set_cons_succ])
  go_cut [20] (fun v20 wc => ∃ b : Bool, v20 = .bool b ∧ Aside0 (b = !(ok && tk)) ∧ Aside0 (wc.heap[i7]? = some (.cells #[.slice sA st.length sC, .int .i64 t0, .int .i64 t1, .int .i64 t2, .int .i64 t3, .slice pA pa.length pC, .int .i64 gr, .int .i64 x0, .int .i64 y0, .int .i64 x1, .int .i64 y1, .slice vA sv.length vC, .slice oA ob.length oC] 46 (0, 0))) ∧ Aside0 (wc.heap[j9]? = some (.cells #[.string nm, .int .i64 n] 50 (0, 0))) ∧ Aside0 (wc.heap[g3]? = some (.cells #[.slice none 0 0, .int .i64 0, .int .i64 0, .int .i64 0, .int .i64 0, .slice none 0 0, .int .i64 0, .int .i64 0, .int .i64 0, .int .i64 0, .int .i64 0, .slice none 0 0, .slice none 0 0] 46 (0, 0))) ∧ Aside0 (Below w.heap.size w wc))
  case first =>
    have hnb10 := nP i1 i3
    have hnb11 := nP l4 l5
    have hz12 := cz13 e9
    cases ok with
    | true =>
      go_wp2_with (first | ((with_reducible refine gC 36 ?_); refine cM (some 14) Tryz.func36 (impl_PageOk.calls k1 _ _ st t0 t1 t2 t3 _ _ pa gr x0 y0 x1 y1 _ _ sv _ _ ob _ _ (cC ⟨Hs⟩ HB) hs (cC ⟨Hp⟩ HB) hp (cC ⟨Hv⟩ HB) hv (cC ⟨Ho⟩ HB) ho hk1) ?_; rintro e w13 ⟨rfl, hb⟩; refine ⟨_, rfl, ?_⟩; replace e9 := kB_ i7 hb; replace e8 := kB_ j9 hb; replace e2 := kB_ g3 hb; replace HB := hB hb; (try clear hb); have hnb14 := nP i4 i5; have hz15 := cz2 e8) | (go_at_call 37; (with_reducible refine (impl_TokenOk.calls k2 nm n tk _ hk2).mono ?_); rintro e w16 ⟨rfl, hb⟩; replace e9 := kB_ i7 hb; replace e8 := kB_ j9 hb; replace e2 := kB_ g3 hb; replace HB := hB hb; (try clear hb)))
      go_meet
      case rel => exact ⟨_, rfl, ⟨rfl⟩, ⟨kS⟩, ⟨kS⟩, ⟨kS⟩, ⟨bS⟩⟩
    | false =>
      go_wp2_with (first | ((with_reducible refine gC 36 ?_); refine cM (some 14) Tryz.func36 (impl_PageOk.calls k1 _ _ st t0 t1 t2 t3 _ _ pa gr x0 y0 x1 y1 _ _ sv _ _ ob _ _ (cC ⟨Hs⟩ HB) hs (cC ⟨Hp⟩ HB) hp (cC ⟨Hv⟩ HB) hv (cC ⟨Ho⟩ HB) ho hk1) ?_; rintro e w13 ⟨rfl, hb⟩; refine ⟨_, rfl, ?_⟩; replace e9 := kB_ i7 hb; replace e8 := kB_ j9 hb; replace e2 := kB_ g3 hb; replace HB := hB hb; (try clear hb)))
      go_meet
      case rel => exact ⟨_, rfl, ⟨rfl⟩, ⟨kS⟩, ⟨kS⟩, ⟨kS⟩, ⟨bS⟩⟩
  case rest =>
    obtain ⟨b, rfl, hbb, e9, e8, e2, HB⟩ := hcut
    cases b with
    | true =>
      have hnb10 := nP i1 i3
      have hnb11 := nP l4 l5
      have hz12 := cz13 e9
      have hrr : exec ⟨⟨st, ⟨t0, t1, t2, t3⟩, pa, gr, ⟨x0, y0, x1, y1⟩⟩, sv, ob⟩ nm n = (⟨⟨st, ⟨t0, t1, t2, t3⟩, pa, gr, ⟨x0, y0, x1, y1⟩⟩, sv, ob⟩, false) := by
        have h := hbb.out
        rw [← hok.out, ← htk.out] at h
        unfold exec
        rw [if_neg (fun h2 => by rw [h2.1, h2.2] at h; simp at h)]
      go_wp2_with (first | ((with_reducible refine gC 38 ?_); refine cM (some 22) Tryz.func38 (icopy_c (hRd.out.below HB.out) hnn.out) ?_; rintro e w26 ⟨x, rfl, hb, c, s1, p1, v1, o1, rfl, hR⟩; refine ⟨_, rfl, ?_⟩; replace e9 := kB_ i7 hb; replace e8 := kB_ j9 hb; replace e2 := kB_ g3 hb; have hWs := HB.out.size; replace HB := hB hb; clear hb; obtain ⟨sB, sD, rfl⟩ := Kd.R_slice hR.hs; obtain ⟨pB, pD, rfl⟩ := Kd.R_slice hR.hp; obtain ⟨vB, vD, rfl⟩ := Kd.S_slice hR.hv; obtain ⟨oB, oD, rfl⟩ := Kd.S_slice hR.ho; simp only [cels]; have hnb28 := nP i5 i4; have hz29 := cz13 e2))
      refine bodyPost_ret (results_ct rfl _ _ g3 46 #[.slice sB st.length sD, .int .i64 t0, .int .i64 t1, .int .i64 t2, .int .i64 t3, .slice pB pa.length pD, .int .i64 gr, .int .i64 x0, .int .i64 y0, .int .i64 x1, .int .i64 y1, .slice vB sv.length vD, .slice oB ob.length oD] (0, 0) _ rfl kS Tryz.underlying46 rfl (by kernel_rfl)) rfl ?_
      rw [hr.out, hrr]
      have hg := f3.out
      exact ⟨_, rfl, NewP.mk (q := ⟨⟨st, ⟨t0, t1, t2, t3⟩, pa, gr, ⟨x0, y0, x1, y1⟩⟩, sv, ob⟩) HB.out (hR.lower hWs) e2 hg⟩
    | false =>
      obtain ⟨rfl, rfl⟩ := both_t hbb.out
      have hWc := HB.out.size
      obtain ⟨k3, hk3⟩ := iTaken_ev nm
      replace hk3 := hk3 k3 (Nat.le_refl _)
      generalize htv : takenV nm = tv at hk3
      replace htv := aM htv
      obtain ⟨cnt, named⟩ := tv
      have hnb10 := nP i1 i3
      have hnb11 := nP l4 l5
      have hz12 := cz13 e9
      go_upto_block 0 with (first | ((with_reducible refine gC 38 ?_); refine cM (some 24) Tryz.func38 (icopy_c (hRd.out.below HB.out) hnn.out) ?_; rintro e w26 ⟨x, rfl, hb, c, s1, p1, v1, o1, rfl, hR⟩; refine ⟨_, rfl, ?_⟩; have hi7 := blk_lt e9.out; have hg3 := blk_lt e2.out; have hBw := hb.size; replace e9 := kB_ i7 hb; replace e8 := kB_ j9 hb; replace e2 := kB_ g3 hb; have hWs := HB.out.size; replace HB := hB hb; clear hb; obtain ⟨sB, sD, rfl⟩ := Kd.R_slice hR.hs; obtain ⟨pB, pD, rfl⟩ := Kd.R_slice hR.hp; obtain ⟨vB, vD, rfl⟩ := Kd.S_slice hR.hv; obtain ⟨oB, oD, rfl⟩ := Kd.S_slice hR.ho; simp only [cels]) | ((with_reducible refine gD 6 ?_); refine bxE #[.slice none 0 0, .int .i64 0, .int .i64 0, .int .i64 0, .int .i64 0, .slice none 0 0, .int .i64 0, .int .i64 0, .int .i64 0, .int .i64 0, .int .i64 0, .slice none 0 0, .slice none 0 0] 46 ?_; intro a5 hg w40 a2 hb; have ha5 : wc.heap.size ≤ a5 := hg ▸ hBw; have f5 := gE hg; have j6 := nL_ i7 hg; have m1 := nG_ i7 hg; have j7 := nL_ j9 hg; have m2 := nG_ j9 hg; have j8 := nL_ g3 hg; have m4 := nG_ g3 hg; replace hR := hR.below hb; replace hBw := Nat.le_trans hBw hb.size; replace e9 := kB_ i7 hb; replace e8 := kB_ j9 hb; replace e2 := kB_ g3 hb; replace HB := hB hb; clear hb hg; have hnb42 := nP m1 j6; have hnb43 := nP m2 j7; have hnb44 := nP m4 j8; have hz45 := cz13 a2; have hnb49 := nP i4 i5; have hz50 := cz2 e8) | ((with_reducible refine gC 39 ?_); refine cM (some 28) Tryz.func39 (impl_taken.calls k3 nm _ _ _ hk3) ?_; rintro e w' ⟨rfl, ⟨nd, rfl⟩⟩; refine ⟨_, rfl, ?_⟩))
      (try simp only [Act.put, List.setIfInBounds_toArray, List.set_cons_zero, List.set_cons_succ])
      obtain ⟨sr, hsr⟩ : ∃ sr, sr = stepV ⟨⟨st, ⟨t0, t1, t2, t3⟩, pa, gr, ⟨x0, y0, x1, y1⟩⟩, sv, ob⟩ nm n := ⟨_, rfl⟩
      replace hsr := aM hsr
      go_cut [7] (fun vv w2 => ∃ b : Bool, vv = .bool b ∧ Aside0 (w2.heap[i7]? = some (.cells #[.slice sA st.length sC, .int .i64 t0, .int .i64 t1, .int .i64 t2, .int .i64 t3, .slice pA pa.length pC, .int .i64 gr, .int .i64 x0, .int .i64 y0, .int .i64 x1, .int .i64 y1, .slice vA sv.length vC, .slice oA ob.length oC] 46 (0, 0))) ∧ Aside0 (w2.heap[g3]? = some (.cells #[.slice none 0 0, .int .i64 0, .int .i64 0, .int .i64 0, .int .i64 0, .slice none 0 0, .int .i64 0, .int .i64 0, .int .i64 0, .int .i64 0, .int .i64 0, .slice none 0 0, .slice none 0 0] 46 (0, 0))) ∧ Aside0 (Below w.heap.size w w2) ∧ Aside0 (Stp w2 wc.heap.size a5 sr b))
      case first =>
        have hz := cz13 a2
        by_cases c1 : nm.toList = []
        · obtain ⟨k4, hk4⟩ := iPush_ev st n (by omega)
          replace hk4 := hk4 k4 (Nat.le_refl _)
          have hst : sr = if (pushN st n).2 = true then some (setSt ⟨⟨st, ⟨t0, t1, t2, t3⟩, pa, gr, ⟨x0, y0, x1, y1⟩⟩, sv, ob⟩ (pushN st n).1) else none := by rw [hsr.out, stepV, if_pos c1]
          generalize pushN st n = pu at hk4 hst
          obtain ⟨X, b⟩ := pu
          replace hst := aM hst
          obtain ⟨c2, c3⟩ := eqT c1
          clear c1
          go_wp2_with (first | ((with_reducible refine gC 40 ?_); refine cM (some 41) Tryz.func40 (impl_PushNumber.calls k4 _ _ st n _ _ _ (Kd.R_reads' (hR.on (Alien.one a2) onL).hs).2.2 (Kd.R_reads' hR.hs).2.1 hk4) ?_; rintro e w60 ⟨x, rfl, hr5, hb⟩; refine ⟨_, rfl, ?_⟩; obtain ⟨c', hR6⟩ := (hR.on (Alien.one a2) (w1 := _) onL).newS hb (Nat.le_trans hBw (onL : OnL [a5] _ _).1) hr5; replace e9 := kB_ i7 hb; replace e2 := kB_ g3 hb; replace a2 := kB_ a5 hb; replace HB := hB hb; clear hb; obtain ⟨xA, xC, rfl⟩ := Kd.R_slice hr5; clear hr5; have hz2 := cz13 a2))
          go_meet
          case rel => exact ⟨b, rfl, ⟨kS⟩, ⟨kS⟩, ⟨bS⟩, ⟨stp_ ⟨⟨X, ⟨t0, t1, t2, t3⟩, pa, gr, ⟨x0, y0, x1, y1⟩⟩, sv, ob⟩ hst.out hR6 a2⟩⟩
        · obtain ⟨c2, c3⟩ := eqF c1
          cases hio : isOp nm with
          | true =>
            obtain ⟨k4, hk4⟩ := iStackOp_ev st nm (by omega)
            replace hk4 := hk4 k4 (Nat.le_refl _)
            have hst : sr = if (stackOpV st nm).2 = true then some (setSt ⟨⟨st, ⟨t0, t1, t2, t3⟩, pa, gr, ⟨x0, y0, x1, y1⟩⟩, sv, ob⟩ (stackOpV st nm).1) else none := by rw [hsr.out, stepV, if_neg c1, if_pos hio]
            generalize stackOpV st nm = pu at hk4 hst
            obtain ⟨X, b⟩ := pu
            replace hst := aM hst
            go_wp2_with (first | ((with_reducible refine gC 41 ?_); refine cM (some 49) Tryz.func41 (impl_IsStackOp.calls nm _ _ (by rw [iIsStackOp_eq, hio])) ?_; rintro e w' ⟨rfl, ⟨nd, rfl⟩⟩; refine ⟨_, rfl, ?_⟩) | ((with_reducible refine gC 42 ?_); refine cM (some 56) Tryz.func42 (impl_StackOp.calls k4 _ _ st nm _ _ _ (Kd.R_reads' (hR.on (Alien.one a2) onL).hs).2.2 (Kd.R_reads' hR.hs).2.1 hk4) ?_; rintro e w60 ⟨x, rfl, hr5, hb⟩; refine ⟨_, rfl, ?_⟩; obtain ⟨c', hR6⟩ := (hR.on (Alien.one a2) (w1 := _) onL).newS hb (Nat.le_trans hBw (onL : OnL [a5] _ _).1) hr5; replace e9 := kB_ i7 hb; replace e2 := kB_ g3 hb; replace a2 := kB_ a5 hb; replace HB := hB hb; clear hb; obtain ⟨xA, xC, rfl⟩ := Kd.R_slice hr5; clear hr5; have hz2 := cz13 a2))
            go_meet
            case rel => exact ⟨b, rfl, ⟨kS⟩, ⟨kS⟩, ⟨bS⟩, ⟨stp_ ⟨⟨X, ⟨t0, t1, t2, t3⟩, pa, gr, ⟨x0, y0, x1, y1⟩⟩, sv, ob⟩ hst.out hR6 a2⟩⟩
          | false =>
            cases named with
            | false =>
              go_wp2_with (first | ((with_reducible refine gC 41 ?_); refine cM (some 49) Tryz.func41 (impl_IsStackOp.calls nm _ _ (by rw [iIsStackOp_eq, hio])) ?_; rintro e w' ⟨rfl, ⟨nd, rfl⟩⟩; refine ⟨_, rfl, ?_⟩))
              go_meet
              case rel => exact ⟨false, rfl, ⟨kS⟩, ⟨kS⟩, ⟨bS⟩, ⟨.inr ⟨rfl, by rw [hsr.out, stepV, if_neg c1, hio, htv.out]; rfl⟩⟩⟩
            | true =>
              have hcr := takenV_rg nm
              rw [htv.out] at hcr
              obtain ⟨k4, hk4⟩ := iTake_ev st cnt (by omega) hcr.1 (by omega)
              replace hk4 := hk4 k4 (Nat.le_refl _)
              have hst : sr = if (takeN st cnt).2.2 = true then paint (setSt ⟨⟨st, ⟨t0, t1, t2, t3⟩, pa, gr, ⟨x0, y0, x1, y1⟩⟩, sv, ob⟩ (takeN st cnt).1) nm (takeN st cnt).2.1 else none := by rw [hsr.out, stepV, if_neg c1, hio, htv.out]; rfl
              have hsm := okP_small hok.out
              have hqq := tn_q hsm.2
              have htf := takeN_facts (l := st) (n := cnt) hcr.1
              generalize takeN st cnt = pu at hk4 hst htf
              obtain ⟨X, L, has⟩ := pu
              replace hst := aM hst
              have hnX : pgN 100000 ⟨⟨X, ⟨t0, t1, t2, t3⟩, pa, gr, ⟨x0, y0, x1, y1⟩⟩, sv, ob⟩ := by
                have h12 := pgN_mono hsm.1 (show 12 ≤ 100000 by omega)
                have := hsm.1.1
                have := htf.1
                dsimp only at *
                exact ⟨by dsimp only; omega, h12.2⟩
              cases has with
              | false =>
                go_wp2_with (first | ((with_reducible refine gC 41 ?_); refine cM (some 49) Tryz.func41 (impl_IsStackOp.calls nm _ _ (by rw [iIsStackOp_eq, hio])) ?_; rintro e w' ⟨rfl, ⟨nd, rfl⟩⟩; refine ⟨_, rfl, ?_⟩) | ((with_reducible refine gC 43 ?_); refine cM (some 68) Tryz.func43 (impl_TakeNumbers.calls k4 _ _ st cnt _ _ _ _ (Kd.R_reads' (hR.on (Alien.one a2) onL).hs).2.2 (Kd.R_reads' hR.hs).2.1 hk4) ?_; rintro e w60 ⟨x, y, rfl, hr5, hr6, hb⟩; refine ⟨_, rfl, ?_⟩; obtain ⟨c', hR6⟩ := (hR.on (Alien.one a2) (w1 := _) onL).newS hb (Nat.le_trans hBw (onL : OnL [a5] _ _).1) hr5; have hB6 := Nat.le_trans (Nat.le_trans hBw (onL : OnL [a5] w40 _).1) hb.size; replace e9 := kB_ i7 hb; replace e8 := kB_ j9 hb; replace e2 := kB_ g3 hb; replace a2 := kB_ a5 hb; replace HB := hB hb; clear hb; obtain ⟨xA, xC, rfl⟩ := Kd.R_slice hr5; obtain ⟨yA, yC, rfl⟩ := Kd.R_slice hr6; clear hr5; have hz2 := cz13 a2; have hz3 := cz2 e8))
                go_meet
                case rel => exact ⟨false, rfl, ⟨kS⟩, ⟨kS⟩, ⟨bS⟩, ⟨.inr ⟨rfl, hst.out⟩⟩⟩
              | true =>
                have hlen : (L.length : Int) = cnt := htf.2.2 rfl
                replace hlen := aM hlen
                have hst2 := aM (show sr = paint ⟨⟨X, ⟨t0, t1, t2, t3⟩, pa, gr, ⟨x0, y0, x1, y1⟩⟩, sv, ob⟩ nm L from hst.out.trans (if_pos rfl))
                go_wp2_with (first | ((with_reducible refine gC 41 ?_); refine cM (some 49) Tryz.func41 (impl_IsStackOp.calls nm _ _ (by rw [iIsStackOp_eq, hio])) ?_; rintro e w' ⟨rfl, ⟨nd, rfl⟩⟩; refine ⟨_, rfl, ?_⟩) | ((with_reducible refine gC 43 ?_); refine cM (some 68) Tryz.func43 (impl_TakeNumbers.calls k4 _ _ st cnt _ _ _ _ (Kd.R_reads' (hR.on (Alien.one a2) onL).hs).2.2 (Kd.R_reads' hR.hs).2.1 hk4) ?_; rintro e w60 ⟨x, y, rfl, hr5, hr6, hb⟩; refine ⟨_, rfl, ?_⟩; obtain ⟨c', hR6⟩ := (hR.on (Alien.one a2) (w1 := _) onL).newS hb (Nat.le_trans hBw (onL : OnL [a5] _ _).1) hr5; have hB6 := Nat.le_trans (Nat.le_trans hBw (onL : OnL [a5] w40 _).1) hb.size; replace e9 := kB_ i7 hb; replace e8 := kB_ j9 hb; replace e2 := kB_ g3 hb; replace a2 := kB_ a5 hb; replace HB := hB hb; clear hb; obtain ⟨xA, xC, rfl⟩ := Kd.R_slice hr5; obtain ⟨yA, yC, rfl⟩ := Kd.R_slice hr6; clear hr5; have hz2 := cz13 a2; have hz3 := cz2 e8) | (go_at_call 44; fail))
                refine (painted_c (l := L) (B := wc.heap.size) (pre_ ⟨⟨X, ⟨t0, t1, t2, t3⟩, pa, gr, ⟨x0, y0, x1, y1⟩⟩, sv, ob⟩ hR6 a2 ha5 hB6 hqq hnX) (Kd.R_reads' (Kd.R_far (Kd.R_types hr6 a2.out (by decide)) (fun _ hk => hk.2) _)).2.2 (by rw [htv.out]) (by rw [htv.out]; exact hlen.out)).mono ?_
                rintro e w7 hP
                obtain ⟨hb7, b, rfl, hs⟩ := hP.toStp
                replace e9 := aM (blkB hb7 hi7 kS)
                replace e2 := aM (blkB hb7 hg3 kS)
                replace HB := aM (Below.trans (bS : Below w.heap.size w _) (hb7.mono hWs))
                rw [← hst2.out] at hs
                cases b with
                | true =>
                  go_wp2
                  go_meet
                  case rel => exact ⟨true, rfl, e9, e2, HB, ⟨hs⟩⟩
                | false =>
                  go_wp2
                  go_meet
                  case rel => exact ⟨false, rfl, e9, e2, HB, ⟨hs⟩⟩
      case rest =>
        obtain ⟨b, rfl, e9, e2, HB, hs⟩ := hcut
        have hex : exec ⟨⟨st, ⟨t0, t1, t2, t3⟩, pa, gr, ⟨x0, y0, x1, y1⟩⟩, sv, ob⟩ nm n = finV ⟨⟨st, ⟨t0, t1, t2, t3⟩, pa, gr, ⟨x0, y0, x1, y1⟩⟩, sv, ob⟩ sr := by rw [hsr.out, exec, if_pos ⟨hok.out, htk.out⟩]
        replace hex := aM hex
        have hnb10 := nP i1 i3
        have hnb11 := nP l4 l5
        have hz12 := cz13 e9
        have hWs := HB.out.size
        rcases hs.out with ⟨rfl, q1, hq1, hm⟩ | ⟨rfl, hno⟩
        · have hnq := stepV_n (okP_small hok.out).1 (hsr.out.symm.trans hq1)
          obtain ⟨k5, hk5⟩ := iPageOkP_ev q1 hnq
          replace hk5 := hk5 k5 (Nat.le_refl _)
          rw [hq1] at hex
          generalize hok5 : okP q1 = ok5 at hk5
          replace hok5 := aM hok5
          obtain ⟨⟨st5, ⟨t5, t6, t7, t8⟩, pa5, gr5, ⟨x5, y5, x6, y6⟩⟩, sv5, ob5⟩ := q1
          obtain ⟨c, s1, p1, v1, o1, hR, hb⟩ := hm
          dsimp only at hR hb hk5
          obtain ⟨sE, sF, rfl⟩ := Kd.R_slice hR.hs
          obtain ⟨pE, pF, rfl⟩ := Kd.R_slice hR.hp
          obtain ⟨vE, vF, rfl⟩ := Kd.S_slice hR.hv
          obtain ⟨oE, oF, rfl⟩ := Kd.S_slice hR.ho
          have a2 := aM hb
          have hz2 := cz13 a2
          cases ok5 with
          | true =>
            go_wp2_with (first | (go_at_call 36; (with_reducible refine (impl_PageOk.calls k5 _ _ st5 t5 t6 t7 t8 _ _ pa5 gr5 x5 y5 x6 y6 _ _ sv5 _ _ ob5 _ _ (Kd.R_reads' hR.hs).2.2 (Kd.R_reads' hR.hs).2.1 (Kd.R_reads' hR.hp).2.2 (Kd.R_reads' hR.hp).2.1 (Kd.S_reads' hR.hv).2.2 (Kd.S_reads' hR.hv).2.1 (Kd.S_reads' hR.ho).2.2 (Kd.S_reads' hR.ho).2.1 hk5).mono ?_); rintro e w5 ⟨rfl, hb5⟩; replace e9 := kB_ i7 hb5; replace e2 := kB_ g3 hb5; replace a2 := kB_ a5 hb5; replace HB := hB hb5; replace hR := hR.below hb5; (try clear hb5); have hz3 := cz13 a2; have hz4 := cz13 e2))
            refine bodyPost_ret (results_ct rfl _ _ g3 46 #[.slice sE st5.length sF, .int .i64 t5, .int .i64 t6, .int .i64 t7, .int .i64 t8, .slice pE pa5.length pF, .int .i64 gr5, .int .i64 x5, .int .i64 y5, .int .i64 x6, .int .i64 y6, .slice vE sv5.length vF, .slice oE ob5.length oF] (0, 0) _ rfl kS Tryz.underlying46 rfl (by kernel_rfl)) rfl ?_
            have hrr : exec ⟨⟨st, ⟨t0, t1, t2, t3⟩, pa, gr, ⟨x0, y0, x1, y1⟩⟩, sv, ob⟩ nm n = (⟨⟨st5, ⟨t5, t6, t7, t8⟩, pa5, gr5, ⟨x5, y5, x6, y6⟩⟩, sv5, ob5⟩, true) := by rw [hex.out, finV]; exact if_pos hok5.out
            rw [hr.out, hrr]
            have hg := f3.out
            exact ⟨_, rfl, NewP.mk (q := ⟨⟨st5, ⟨t5, t6, t7, t8⟩, pa5, gr5, ⟨x5, y5, x6, y6⟩⟩, sv5, ob5⟩) HB.out (hR.lower hWc) e2 hg⟩
          | false =>
            go_wp2_with (first | (go_at_call 36; (with_reducible refine (impl_PageOk.calls k5 _ _ st5 t5 t6 t7 t8 _ _ pa5 gr5 x5 y5 x6 y6 _ _ sv5 _ _ ob5 _ _ (Kd.R_reads' hR.hs).2.2 (Kd.R_reads' hR.hs).2.1 (Kd.R_reads' hR.hp).2.2 (Kd.R_reads' hR.hp).2.1 (Kd.S_reads' hR.hv).2.2 (Kd.S_reads' hR.hv).2.1 (Kd.S_reads' hR.ho).2.2 (Kd.S_reads' hR.ho).2.1 hk5).mono ?_); rintro e w5 ⟨rfl, hb5⟩; replace e9 := kB_ i7 hb5; replace e2 := kB_ g3 hb5; replace a2 := kB_ a5 hb5; replace HB := hB hb5; clear hb5 hR; have hz3 := cz13 a2; have hz4 := cz13 e2; have hz5 := cz13 e9) | ((with_reducible refine gC 38 ?_); refine cM (some 90) Tryz.func38 (icopy_c (hRd.out.below HB.out) hnn.out) ?_; rintro e w26 ⟨x, rfl, hb, c, s1, p1, v1, o1, rfl, hR⟩; refine ⟨_, rfl, ?_⟩; have hWs := HB.out.size; replace e2 := kB_ g3 hb; replace HB := hB hb; clear hb; obtain ⟨sB, sD, rfl⟩ := Kd.R_slice hR.hs; obtain ⟨pB, pD, rfl⟩ := Kd.R_slice hR.hp; obtain ⟨vB, vD, rfl⟩ := Kd.S_slice hR.hv; obtain ⟨oB, oD, rfl⟩ := Kd.S_slice hR.ho; simp only [cels]; have hz29 := cz13 e2))
            refine bodyPost_ret (results_ct rfl _ _ g3 46 #[.slice sB st.length sD, .int .i64 t0, .int .i64 t1, .int .i64 t2, .int .i64 t3, .slice pB pa.length pD, .int .i64 gr, .int .i64 x0, .int .i64 y0, .int .i64 x1, .int .i64 y1, .slice vB sv.length vD, .slice oB ob.length oD] (0, 0) _ rfl kS Tryz.underlying46 rfl (by kernel_rfl)) rfl ?_
            have hrr : exec ⟨⟨st, ⟨t0, t1, t2, t3⟩, pa, gr, ⟨x0, y0, x1, y1⟩⟩, sv, ob⟩ nm n = (⟨⟨st, ⟨t0, t1, t2, t3⟩, pa, gr, ⟨x0, y0, x1, y1⟩⟩, sv, ob⟩, false) := by rw [hex.out, finV]; exact if_neg (by rw [hok5.out]; simp)
            rw [hr.out, hrr]
            have hg := f3.out
            exact ⟨_, rfl, NewP.mk (q := ⟨⟨st, ⟨t0, t1, t2, t3⟩, pa, gr, ⟨x0, y0, x1, y1⟩⟩, sv, ob⟩) HB.out (hR.lower hWs) e2 hg⟩
        · go_wp2_with (first | ((with_reducible refine gC 38 ?_); refine cM (some 90) Tryz.func38 (icopy_c (hRd.out.below HB.out) hnn.out) ?_; rintro e w26 ⟨x, rfl, hb, c, s1, p1, v1, o1, rfl, hR⟩; refine ⟨_, rfl, ?_⟩; replace e2 := kB_ g3 hb; replace HB := hB hb; clear hb; obtain ⟨sB, sD, rfl⟩ := Kd.R_slice hR.hs; obtain ⟨pB, pD, rfl⟩ := Kd.R_slice hR.hp; obtain ⟨vB, vD, rfl⟩ := Kd.S_slice hR.hv; obtain ⟨oB, oD, rfl⟩ := Kd.S_slice hR.ho; simp only [cels]; have hz29 := cz13 e2))
          refine bodyPost_ret (results_ct rfl _ _ g3 46 #[.slice sB st.length sD, .int .i64 t0, .int .i64 t1, .int .i64 t2, .int .i64 t3, .slice pB pa.length pD, .int .i64 gr, .int .i64 x0, .int .i64 y0, .int .i64 x1, .int .i64 y1, .slice vB sv.length vD, .slice oB ob.length oD] (0, 0) _ rfl kS Tryz.underlying46 rfl (by kernel_rfl)) rfl ?_
          have hrr : exec ⟨⟨st, ⟨t0, t1, t2, t3⟩, pa, gr, ⟨x0, y0, x1, y1⟩⟩, sv, ob⟩ nm n = (⟨⟨st, ⟨t0, t1, t2, t3⟩, pa, gr, ⟨x0, y0, x1, y1⟩⟩, sv, ob⟩, false) := by rw [hex.out, hno]; rfl
          rw [hr.out, hrr]
          have hg := f3.out
          exact ⟨_, rfl, NewP.mk (q := ⟨⟨st, ⟨t0, t1, t2, t3⟩, pa, gr, ⟨x0, y0, x1, y1⟩⟩, sv, ob⟩) HB.out (hR.lower hWs) e2 hg⟩
end Go.Proofs.YtjkgponlahfnjaaGreat.Ex
