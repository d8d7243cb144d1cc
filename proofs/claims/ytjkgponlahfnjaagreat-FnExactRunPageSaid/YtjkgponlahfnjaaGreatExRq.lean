/- impl.RunPage. -/
import Derived.Test.YtjkgponlahfnjaaGreatExFl
import Derived.Test.YtjkgponlahfnjaaGreatExIe
import Derived.Test.YtjkgponlahfnjaaGreatExSe
set_option linter.unusedVariables false
set_option linter.unusedSimpArgs false
set_option maxHeartbeats 8000000
set_option maxRecDepth 100000
namespace Go.Proofs.YtjkgponlahfnjaaGreat.Ex
open Go.RowKit Go.Proofs.YtjkgponlahfnjaaGreatW.PrintWords Go.Proofs.YtjkgponlahfnjaaGreatW.PrintLast Go.Proofs.YtjkgponlahfnjaaGreatW.PrintMore
open Go.Proofs.YtjkgponlahfnjaaGreat.QFnExactRunPage Go.Proofs.YtjkgponlahfnjaaGreat.Pure Go.Proofs.YtjkgponlahfnjaaGreat.Plain
attribute [local go_sem] Tryz.underlying46 Tryz.underlying42 Tryz.underlying50
theorem irun_c {w : World} {A : Option Addr} {C : Nat} {l : List S50} (h : Kd.C k50 w A l.length l) (hc : l.length ≤ C) (hm : l.length ≤ 2000000) : Calls Tryz.prog 17 #[.slice A l.length C] w (fun e w' => ∃ x, e = .returned (.tuple #[x, .int .i64 (runPageV l).2]) ∧ NewP w (runPageV l).1 x w') := by
  obtain ⟨k, hk⟩ := iFlatten_ev l (by rw [maxLen_eq]; omega)
  replace hk := hk k (Nat.le_refl _)
  have hfl := flattenV_len l
  unfold runPageV
  generalize flattenV l = F at hk hfl ⊢
  obtain ⟨T, ok⟩ := F
  replace h := aM h
  have HB := aM (Below.refl w.heap.size w)
  cases ok with
  | false =>
    simp only [Bool.false_eq_true, if_false]
    go_enter Tryz.func17, Tryz.ntmps17
    go_wp2_with (first | ((with_reducible refine gD 2 ?_); refine bxE #[.slice none 0 0, .int .i64 0, .int .i64 0, .int .i64 0, .int .i64 0, .slice none 0 0, .int .i64 0, .int .i64 0, .int .i64 0, .int .i64 0, .int .i64 0, .slice none 0 0, .slice none 0 0] 46 ?_; intro b2 hg w4 a2 hb; have f1 := gE hg; replace HB := hB hb; clear hb hg) | ((with_reducible refine gC 56 ?_); refine cM (some 13) Tryz.func56 (impl_FlattenBlocks.calls k A C l T false _ (Kd.C_below h.out HB.out) hc hk) ?_; rintro e w5 ⟨v0, rfl, hv, hb⟩; refine ⟨_, rfl, ?_⟩; obtain ⟨vA, vC, rfl⟩ := Kd.V_slice hv; replace a2 := kB_ b2 hb; replace HB := hB hb; clear hb; have hz := cz13 a2))
    refine bodyPost_ret (results_ct rfl _ _ b2 46 #[.slice none 0 0, .int .i64 0, .int .i64 0, .int .i64 0, .int .i64 0, .slice none 0 0, .int .i64 0, .int .i64 0, .int .i64 0, .int .i64 0, .int .i64 0, .slice none 0 0, .slice none 0 0] (0, 0) _ rfl (kR a2) Tryz.underlying46 rfl (by kernel_rfl)) rfl ?_
    exact ⟨_, rfl, bS, _, _, _, _, _, rfl, Rw.nil _ _⟩
  | true =>
    simp only [if_true]
    go_enter Tryz.func17, Tryz.ntmps17
    go_wp2_with (first | ((with_reducible refine gD 2 ?_); refine bxE #[.slice none 0 0, .int .i64 0, .int .i64 0, .int .i64 0, .int .i64 0, .slice none 0 0, .int .i64 0, .int .i64 0, .int .i64 0, .int .i64 0, .int .i64 0, .slice none 0 0, .slice none 0 0] 46 ?_; intro b2 hg w4 a2 hb; have f1 := gE hg; replace HB := hB hb; clear hb hg) | ((with_reducible refine gC 56 ?_); refine cM (some 13) Tryz.func56 (impl_FlattenBlocks.calls k A C l T true _ (Kd.C_below h.out HB.out) hc hk) ?_; rintro e w5 ⟨v0, rfl, hv, hb⟩; refine ⟨_, rfl, ?_⟩; obtain ⟨vA, vC, rfl⟩ := Kd.V_slice hv; replace a2 := kB_ b2 hb; replace HB := hB hb; clear hb; have HB0 := aM (Below.refl w5.heap.size w5); have hT := (Kd.V_reads' hv).2.2; have hTc := (Kd.V_reads' hv).2.1; have hb2 := blk_lt a2.out; have hw5 := HB.out.size) | ((with_reducible refine gC 57 ?_); refine cM (some 19) Tryz.func57 inew_c ?_; rintro e w6 ⟨x, rfl, hnp⟩; obtain ⟨hb, s, p, v, o, rfl, hO⟩ := hnp.own; have hBN := hb.size; have hB6 := HB0.out.size; refine ⟨_, rfl, ?_⟩; replace HB0 := aM (below_step HB0.out hb); clear hb hnp; obtain ⟨sA, sC, pA, pC, vA2, vC2, oA, oC, rfl, rfl, rfl, rfl⟩ := hO.sl; simp only [cels]) | ((with_reducible refine gD 6 ?_); refine bxE #[.slice none 0 0, .int .i64 0, .int .i64 0, .int .i64 0, .int .i64 0, .slice none 0 0, .int .i64 0, .int .i64 0, .int .i64 0, .int .i64 0, .int .i64 0, .slice none 0 0, .slice none 0 0] 46 ?_; intro g6 hg w7 a6 hb; have f6 : w5.heap.size ≤ g6 := hg ▸ HB0.out.size; replace hO := hO.below hb; replace HB0 := aM (below_step HB0.out hb); clear hb hg; have hz6 := cz13 a6))
    go_loopg [22] T.length (fun kq vv w' => ∃ (j : Nat) (P : Pg) (s p v o : Value) (B N : Nat), vv = .int .i64 (j : Int) ∧ Aside0 (kq + j = T.length) ∧ Aside0 (runV P j (T.drop j) = runV page0 0 T) ∧ Aside0 (okP P = true) ∧ Aside0 (Below w5.heap.size w5 w') ∧ Aside0 (VP w' g6 P B N s p v o) ∧ Aside0 (w.heap.size ≤ B))
    case atStart =>
      refine ⟨0, page0, _, _, _, _, _, _, rfl, ⟨by omega⟩, ⟨by rw [List.drop_zero]; rfl⟩, ⟨page0_ok⟩, ⟨?_⟩, ⟨⟨kR a6, hO.on (Alien.one a6) onL, hBN⟩⟩, ⟨hw5⟩⟩
      repeat (first | (with_reducible exact HB0.out) | (with_reducible refine Below.setCell ?_ f6 _))
    case round =>
      obtain ⟨j, P, s, p, v, o, B, N, rfl, hj, hrun, hP, HB0, V6, hB⟩ := hrel
      clear hO a6 hz6 hBN hB6
      have hz6 := cz13 ⟨V6.out.a⟩
      have hPn := pgN_mono (okP_small hP.out).1 (show 12 ≤ 1048576 by decide)
      have n26 := Nat.ne_of_lt (Nat.lt_of_lt_of_le hb2 f6)
      have n62 := n26.symm
      have a2' := aM (blk_below a2.out HB0.out)
      by_cases hj4 : j < T.length
      · have hdrop : T.drop j = rd_T50 T (j : Int) :: T.drop (j + 1) := by
          rw [List.drop_eq_getElem_cons hj4]
          simp [rd_T50, List.getD_eq_getElem?_getD, hj4]
        obtain ⟨ad, e1, hx0, hx1⟩ := at_T50 (Kd.C_below hT HB0.out) (j : Int) (by omega) (by omega)
        cases e1
        rw [hdrop] at hrun
        generalize rd_T50 T (j : Int) = t at hx0 hx1 hrun
        obtain ⟨nm, n⟩ := t
        have CI := fun w' s p v o (h : RdP w' P s p v o) => iexec_c (nm := nm) (n := n) h hPn
        have hE : okP (exec P nm n).1 = true ∨ (exec P nm n).2 = false := by
          cases hb : (exec P nm n).2 with
          | true => exact .inl (exec_ok hb)
          | false => exact .inr rfl
        simp only [runV] at hrun
        generalize exec P nm n = Z at CI hrun hE
        obtain ⟨E, b⟩ := Z
        dsimp only at CI hrun hE hx0 hx1
        simp only [Int.toNat_natCast] at hx0 hx1
        have p1 := eq_true (show 0 ≤ (j : Int) by omega)
        have q1 := eq_true (show (j : Int) < (T.length : Int) by omega)
        have hi2 : IntKind.i64.wrap ((j : Int) + 1) = (j : Int) + 1 := by rw [i64_w]; exact wrap_id (by omega) (by omega)
        go_upto_region 8 with (first | ((with_reducible refine gD 8 ?_); refine bxE #[.string (⟨#[]⟩ : ByteArray), .int .i64 0] 50 ?_; intro g8 hg w8 a8 hb; have f8 : w5.heap.size ≤ g8 := hg ▸ HB0.out.size; have n68 := Nat.ne_of_lt (hg ▸ blk_lt V6.out.a); replace V6 := aM (V6.out.below hb); replace HB0 := aM (below_step HB0.out hb); clear hb hg hz6; have hz8 := cz2 a8))
        (try simp only [Act.put, List.setIfInBounds_toArray, List.set_cons_zero, List.set_cons_succ])
        have HB1 := (HB0.out.setCell (p := ⟨g8, 0, none⟩) f8 (.string nm)).setCell (p := ⟨g8, 1, none⟩) f8 (.int .i64 n)
        replace V6 := aM (V6.out.on (OnL_set (g := g8) (OnL_set (g := g8) (OnL_refl [g8] w8) 0 (.string nm) (by simp)) 1 (.int .i64 n) (by simp)) a8.out n68)
        have hw8 := Nat.le_trans hw5 HB1.size
        replace HB0 := aM HB1
        clear HB1
        have hz6 := cz13 ⟨V6.out.a⟩
        have hz8 := cz2 (aM (kR a8 (cs' := #[.string nm, .int .i64 n]) (w1 := (w8.setCell ⟨g8, 0, none⟩ (.string nm)).setCell ⟨g8, 1, none⟩ (.int .i64 n))))
        clear a8
        generalize (w8.setCell ⟨g8, 0, none⟩ (.string nm)).setCell ⟨g8, 1, none⟩ (.int .i64 n) = w8 at HB0 V6 hw8 hz6 hz8 ⊢
        go_cut [9, 10] (fun v9 v10 wc => ∃ (g : Nat) (s1 p1 v1 o1 : Value) (B N B1 N1 : Nat), v9 = .pointer (some ⟨g, 0, none⟩) ∧ v10 = .bool b ∧ Aside0 (Below w5.heap.size w5 wc) ∧ Aside0 (VP wc g6 P B N s p v o) ∧ Aside0 (VP wc g E B1 N1 s1 p1 v1 o1) ∧ g6 ≠ g ∧ Aside0 (w.heap.size ≤ B) ∧ Aside0 (w.heap.size ≤ B1))
        case first =>
          go_wp2_with (first | ((with_reducible refine gC 10 ?_); refine cM (some 30) Tryz.func10 (CI _ _ _ _ _ V6.out.O.rd) ?_; rintro e w9 ⟨x, rfl, hnp⟩; obtain ⟨hb, s9, p9, v9, o9, rfl, hO⟩ := hnp.own; have hBN := hb.size; refine ⟨_, rfl, ?_⟩; replace HB0 := aM (below_step HB0.out hb); replace V6 := aM (V6.out.below hb); clear hb hnp hz6 hz8; obtain ⟨sB, sD, pB, pD, vB, vD, oB, oD, rfl, rfl, rfl, rfl⟩ := hO.sl; simp only [cels]) | ((with_reducible refine gD 9 ?_); refine bxE #[.slice none 0 0, .int .i64 0, .int .i64 0, .int .i64 0, .int .i64 0, .slice none 0 0, .int .i64 0, .int .i64 0, .int .i64 0, .int .i64 0, .int .i64 0, .slice none 0 0, .slice none 0 0] 46 ?_; intro g9 hg w10 a9 hb; have f9 : w5.heap.size ≤ g9 := hg ▸ HB0.out.size; have n69 := Nat.ne_of_lt (hg ▸ blk_lt V6.out.a); replace V6 := aM (V6.out.below hb); replace hO := hO.below hb; replace HB0 := aM (below_step HB0.out hb); clear hb hg; have hz9 := cz13 a9))
          go_meet
          case rel =>
            refine ⟨g9, _, _, _, _, B, N, _, _, rfl, rfl, ⟨?_⟩, ⟨V6.out.on onL a9.out n69⟩, ⟨⟨kR a9, hO.on (Alien.one a9) onL, hBN⟩⟩, n69, ⟨hB.out⟩, ⟨hw8⟩⟩
            repeat (first | (with_reducible exact HB0.out) | (with_reducible refine Below.setCell ?_ f9 _))
        case rest =>
        obtain ⟨g9, s9, p9, v9, o9, B, N, B9, N9, rfl, rfl, HB0, V6, V9, n69, hB, hB9⟩ := hcut
        clear hz6 hz8 hw8
        have hz6 := cz13 ⟨V6.out.a⟩
        have hz9 := cz13 ⟨V9.out.a⟩
        obtain ⟨sA, sC, pA, pC, vA, vC, oA, oC, rfl, rfl, rfl, rfl⟩ := V6.out.O.sl
        obtain ⟨sB, sD, pB, pD, vB, vD, oB, oD, rfl, rfl, rfl, rfl⟩ := V9.out.O.sl
        cases b with
        | true =>
          have hE := hE.resolve_right (by simp)
          have hr2 := hrun.out
          simp only [if_true] at hr2
          have hnb := And.intro n69 n69.symm
          have a6 := aM (show wc.heap[g6]? = some (.cells #[.slice sA P.g.f0.length sC, .int .i64 P.g.f1.f0, .int .i64 P.g.f1.f1, .int .i64 P.g.f1.f2, .int .i64 P.g.f1.f3, .slice pA P.g.f2.length pC, .int .i64 P.g.f3, .int .i64 P.g.f4.f0, .int .i64 P.g.f4.f1, .int .i64 P.g.f4.f2, .int .i64 P.g.f4.f3, .slice vA P.sv.length vC, .slice oA P.ob.length oC] 46 (0, 0)) from V6.out.a)
          go_wp2
          go_roundg (T.length - (j + 1))
          case measure => have := hj.out; omega
          case rel =>
            refine ⟨j + 1, E, _, _, _, _, B9, N9, by simp, ⟨by omega⟩, ⟨by rw [Int.natCast_add]; exact hr2⟩, ⟨hE⟩, ⟨?_⟩, ⟨⟨kR a6, V9.out.O.on (Alien.one a6) onL, V9.out.hBN⟩⟩, ⟨hB9.out⟩⟩
            repeat (first | (with_reducible exact HB0.out) | (with_reducible refine Below.setCell ?_ f6 _))
        | false =>
          have hr2 := hrun.out
          simp only [Bool.false_eq_true, if_false] at hr2
          have a2w := aM (blk_below a2.out HB0.out)
          have hz2 := cz13 a2w
          have hnb := And.intro n26 n62
          have HB := aM (below_step HB.out HB0.out)
          go_wp2
          refine bodyPost_ret (results_ct rfl _ _ b2 46 #[.slice sA P.g.f0.length sC, .int .i64 P.g.f1.f0, .int .i64 P.g.f1.f1, .int .i64 P.g.f1.f2, .int .i64 P.g.f1.f3, .slice pA P.g.f2.length pC, .int .i64 P.g.f3, .int .i64 P.g.f4.f0, .int .i64 P.g.f4.f1, .int .i64 P.g.f4.f2, .int .i64 P.g.f4.f3, .slice vA P.sv.length vC, .slice oA P.ob.length oC] (0, 0) _ rfl (kR a2w) Tryz.underlying46 rfl (by kernel_rfl)) rfl ?_
          rw [← hr2]
          exact ⟨_, rfl, (V6.out.O.on (Alien.one a2w) onL).new hB.out bS⟩
      · have hjT : j = T.length := by have := hj.out; omega
        subst hjT
        have hrun := hrun.out
        rw [List.drop_length] at hrun
        simp only [runV] at hrun
        have a2w := aM (blk_below a2.out HB0.out)
        have hz2 := cz13 a2w
        have hnb := And.intro n26 n62
        have HB := aM (below_step HB.out HB0.out)
        obtain ⟨sA, sC, pA, pC, vA, vC, oA, oC, rfl, rfl, rfl, rfl⟩ := V6.out.O.sl
        go_wp2
        refine bodyPost_ret (results_ct rfl _ _ b2 46 #[.slice sA P.g.f0.length sC, .int .i64 P.g.f1.f0, .int .i64 P.g.f1.f1, .int .i64 P.g.f1.f2, .int .i64 P.g.f1.f3, .slice pA P.g.f2.length pC, .int .i64 P.g.f3, .int .i64 P.g.f4.f0, .int .i64 P.g.f4.f1, .int .i64 P.g.f4.f2, .int .i64 P.g.f4.f3, .slice vA P.sv.length vC, .slice oA P.ob.length oC] (0, 0) _ rfl (kR a2w) Tryz.underlying46 rfl (by kernel_rfl)) rfl ?_
        rw [← hrun]
        exact ⟨_, rfl, (V6.out.O.on (Alien.one a2w) onL).new hB.out bS⟩
end Go.Proofs.YtjkgponlahfnjaaGreat.Ex
namespace Go.Proofs.YtjkgponlahfnjaaGreat.Ex
open Go.RowKit Go.Proofs.YtjkgponlahfnjaaGreatW.PrintWords Go.Proofs.YtjkgponlahfnjaaGreatW.PrintLast Go.Proofs.YtjkgponlahfnjaaGreatW.PrintMore
open Go.Proofs.YtjkgponlahfnjaaGreat.QFnExactRunPage Go.Proofs.YtjkgponlahfnjaaGreat.Pure Go.Proofs.YtjkgponlahfnjaaGreat.Plain
attribute [local go_sem] Tryz.underlying46 Tryz.underlying42 Tryz.underlying50
theorem srun_c {w : World} {A : Option Addr} {C : Nat} {l : List S50} (h : Kd.C k50 w A l.length l) (hc : l.length ≤ C) (hm : l.length ≤ 2000000) (hs : ∀ t ∈ l, t.f0.size ≤ 2000000) : Calls Tryz.prog 15 #[.slice A l.length C] w (fun e w' => ∃ x, e = .returned (.tuple #[x, .int .i64 (runPageV l).2]) ∧ NewP w (runPageV l).1 x w') := by
  obtain ⟨k, hk⟩ : ∃ k, spec_FlattenBlocks.f k l = some (flattenV l) := ⟨(sFlatten_ev l hm hs).choose, (sFlatten_ev l hm hs).choose_spec _ (Nat.le_refl _)⟩
  have hfl := flattenV_len l
  have hns := fun t ht => hs t (flattenV_mem l t ht)
  unfold runPageV
  generalize flattenV l = F at hk hfl hns ⊢
  obtain ⟨T, ok⟩ := F
  dsimp only at hfl hns
  replace h := aM h
  have HB := aM (Below.refl w.heap.size w)
  cases ok with
  | false =>
    simp only [Bool.false_eq_true, if_false]
    go_enter Tryz.func15, Tryz.ntmps15
    go_wp2_with (first | ((with_reducible refine gD 2 ?_); refine bxE #[.slice none 0 0, .int .i64 0, .int .i64 0, .int .i64 0, .int .i64 0, .slice none 0 0, .int .i64 0, .int .i64 0, .int .i64 0, .int .i64 0, .int .i64 0, .slice none 0 0, .slice none 0 0] 46 ?_; intro b2 hg w4 a2 hb; have f1 := gE hg; replace HB := hB hb; clear hb hg) | ((with_reducible refine gC 54 ?_); refine cM (some 12) Tryz.func54 (spec_FlattenBlocks.calls k A C l T false _ (Kd.C_below h.out HB.out) hc hk) ?_; rintro e w5 ⟨v0, rfl, hv, hb⟩; refine ⟨_, rfl, ?_⟩; obtain ⟨vA, vC, rfl⟩ := Kd.R_slice hv; replace a2 := kB_ b2 hb; replace HB := hB hb; clear hb; have hz := cz13 a2))
    refine bodyPost_ret (results_ct rfl _ _ b2 46 #[.slice none 0 0, .int .i64 0, .int .i64 0, .int .i64 0, .int .i64 0, .slice none 0 0, .int .i64 0, .int .i64 0, .int .i64 0, .int .i64 0, .int .i64 0, .slice none 0 0, .slice none 0 0] (0, 0) _ rfl (kR a2) Tryz.underlying46 rfl (by kernel_rfl)) rfl ?_
    exact ⟨_, rfl, bS, _, _, _, _, _, rfl, Rw.nil _ _⟩
  | true =>
    simp only [if_true]
    go_enter Tryz.func15, Tryz.ntmps15
    go_wp2_with (first | ((with_reducible refine gD 2 ?_); refine bxE #[.slice none 0 0, .int .i64 0, .int .i64 0, .int .i64 0, .int .i64 0, .slice none 0 0, .int .i64 0, .int .i64 0, .int .i64 0, .int .i64 0, .int .i64 0, .slice none 0 0, .slice none 0 0] 46 ?_; intro b2 hg w4 a2 hb; have f1 := gE hg; replace HB := hB hb; clear hb hg) | ((with_reducible refine gC 54 ?_); refine cM (some 12) Tryz.func54 (spec_FlattenBlocks.calls k A C l T true _ (Kd.C_below h.out HB.out) hc hk) ?_; rintro e w5 ⟨v0, rfl, hv, hb⟩; refine ⟨_, rfl, ?_⟩; obtain ⟨vA, vC, rfl⟩ := Kd.R_slice hv; replace a2 := kB_ b2 hb; replace HB := hB hb; clear hb; have HB0 := aM (Below.refl w5.heap.size w5); have hT := (Kd.R_reads' hv).2.2; have hTc := (Kd.R_reads' hv).2.1; have hb2 := blk_lt a2.out; have hw5 := HB.out.size) | ((with_reducible refine gC 55 ?_); refine cM (some 18) Tryz.func55 snew_c ?_; rintro e w6 ⟨x, rfl, hnp⟩; obtain ⟨hb, s, p, v, o, rfl, hO⟩ := hnp.own; have hBN := hb.size; have hB6 := HB0.out.size; refine ⟨_, rfl, ?_⟩; replace HB0 := aM (below_step HB0.out hb); clear hb hnp; obtain ⟨sA, sC, pA, pC, vA2, vC2, oA, oC, rfl, rfl, rfl, rfl⟩ := hO.sl; simp only [cels]) | ((with_reducible refine gD 6 ?_); refine bxE #[.slice none 0 0, .int .i64 0, .int .i64 0, .int .i64 0, .int .i64 0, .slice none 0 0, .int .i64 0, .int .i64 0, .int .i64 0, .int .i64 0, .int .i64 0, .slice none 0 0, .slice none 0 0] 46 ?_; intro g6 hg w7 a6 hb; have f6 : w5.heap.size ≤ g6 := hg ▸ HB0.out.size; replace hO := hO.below hb; replace HB0 := aM (below_step HB0.out hb); clear hb hg; have hz6 := cz13 a6))
    go_loopg [7] T.length (fun kq vv w' => ∃ (j : Nat) (P : Pg) (s p v o : Value) (B N : Nat), vv = .int .i64 (j : Int) ∧ Aside0 (kq + j = T.length) ∧ Aside0 (runV P j (T.drop j) = runV page0 0 T) ∧ Aside0 (okP P = true) ∧ Aside0 (Below w5.heap.size w5 w') ∧ Aside0 (VP w' g6 P B N s p v o) ∧ Aside0 (w.heap.size ≤ B))
    case atStart =>
      refine ⟨0, page0, _, _, _, _, _, _, rfl, ⟨by omega⟩, ⟨by rw [List.drop_zero]; rfl⟩, ⟨page0_ok⟩, ⟨?_⟩, ⟨⟨kR a6, hO.on (Alien.one a6) onL, hBN⟩⟩, ⟨hw5⟩⟩
      repeat (first | (with_reducible exact HB0.out) | (with_reducible refine Below.setCell ?_ f6 _))
    case round =>
      obtain ⟨j, P, s, p, v, o, B, N, rfl, hj, hrun, hP, HB0, V6, hB⟩ := hrel
      clear hO a6 hz6 hBN hB6
      have hPn := pgN_mono (okP_small hP.out).1 (show 12 ≤ 1048576 by decide)
      have n26 := Nat.ne_of_lt (Nat.lt_of_lt_of_le hb2 f6)
      have n62 := n26.symm
      by_cases hj4 : j < T.length
      · have hdrop : T.drop j = rd_T50 T (j : Int) :: T.drop (j + 1) := by
          rw [List.drop_eq_getElem_cons hj4]
          simp [rd_T50, List.getD_eq_getElem?_getD, hj4]
        have hnm := hns (rd_T50 T (j : Int)) (by simp only [rd_T50, Int.toNat_natCast, List.getD_eq_getElem?_getD, List.getElem?_eq_getElem hj4, Option.getD_some]; exact List.getElem_mem hj4)
        obtain ⟨ad, e1, hx0, hx1⟩ := at_T50 (Kd.C_below hT HB0.out) (j : Int) (by omega) (by omega)
        cases e1
        rw [hdrop] at hrun
        generalize rd_T50 T (j : Int) = t at hx0 hx1 hrun hnm
        obtain ⟨nm, n⟩ := t
        have CS := fun w' s p v o (h : RdP w' P s p v o) => sexec_c (nm := nm) (n := n) h hPn hnm
        have hE : okP (exec P nm n).1 = true ∨ (exec P nm n).2 = false := by
          cases hb : (exec P nm n).2 with
          | true => exact .inl (exec_ok hb)
          | false => exact .inr rfl
        simp only [runV] at hrun
        generalize exec P nm n = R at CS hrun hE
        obtain ⟨E, b⟩ := R
        dsimp only at CS hrun hE hx0 hx1
        simp only [Int.toNat_natCast] at hx0 hx1
        have p1 := eq_true (show 0 ≤ (j : Int) by omega)
        have q1 := eq_true (show (j : Int) < (T.length : Int) by omega)
        have hi2 : IntKind.i64.wrap ((j : Int) + 1) = (j : Int) + 1 := by rw [i64_w]; exact wrap_id (by omega) (by omega)
        go_upto_region 8 with (fail)
        (try simp only [Act.put, List.setIfInBounds_toArray, List.set_cons_zero, List.set_cons_succ])
        go_cut [8, 9] (fun v8 v9 wc => ∃ (g : Nat) (s1 p1 v1 o1 : Value) (B N B1 N1 : Nat), v8 = .pointer (some ⟨g, 0, none⟩) ∧ v9 = .bool b ∧ Aside0 (Below w5.heap.size w5 wc) ∧ Aside0 (VP wc g6 P B N s p v o) ∧ Aside0 (VP wc g E B1 N1 s1 p1 v1 o1) ∧ g6 ≠ g ∧ Aside0 (w.heap.size ≤ B) ∧ Aside0 (w.heap.size ≤ B1))
        case first =>
          refine sta (a := g6) (w0 := w5) (lk := []) (B := w5.heap.size) 12 [10] [(ad.add (j * 2), .string nm), (⟨(ad.add (j * 2)).block, (ad.add (j * 2)).off + 1, none⟩, .int .i64 n)] ⟨V6.out.a⟩ (by simp [hx0, hx1]) ⟨Fr.of (Nat.le_refl _) HB0.out⟩ (fun w8 hb0 F0 hHeld => ?_)
          refine tV 0 ?_
          refine pV 1 ?_
          refine pV 2 ?_
          refine pV 3 ?_
          refine tV 4 ?_
          replace V6 := V6.out.below hb0
          replace HB0 := below_step HB0.out hb0
          have n6g := blk_lt V6.a
          refine join_ (σ := Value × Nat) 2 (mB 12 1023) (fun s_ => [(31, .tuple #[s_.1, .bool b]), (25, .tuple #[s_.1, .bool b]), (32, s_.1), (33, .bool b), (8, .pointer (some ⟨s_.2, 0, none⟩))]) (fun s_ w' => Below w8.heap.size w8 w' ∧ w8.heap.size ≤ s_.2 ∧ w'.heap[s_.2]? = some (.cells #[.slice none 0 0, .int .i64 0, .int .i64 0, .int .i64 0, .int .i64 0, .slice none 0 0, .int .i64 0, .int .i64 0, .int .i64 0, .int .i64 0, .int .i64 0, .slice none 0 0, .slice none 0 0] 46 (0, 0)) ∧ ∃ s1 p1 v1 o1 B N, s_.1 = .agg (cels E s1 p1 v1 o1) ∧ w8.heap.size ≤ B ∧ OwnP w' B N E s1 p1 v1 o1 ∧ B ≤ N) ?_ ?_
          · rintro ⟨x2, g⟩ w9 ⟨hb, hg, a9, s1, p1, v1, o1, B1, N1, rfl, hBB, hO, hBN⟩
            dsimp only at hg a9
            obtain ⟨sA, sC, pA, pC, vA, vC, oA, oC, rfl, rfl, rfl, rfl⟩ := hO.sl
            simp only [cels]
            have n69 : g6 ≠ g := by omega
            have f9 : w5.heap.size ≤ g := Nat.le_trans HB0.size hg
            have hB1 : w.heap.size ≤ B1 := Nat.le_trans (Nat.le_trans hw5 HB0.size) hBB
            replace HB0 := below_step HB0 hb
            replace V6 := V6.below hb
            refine norm_ (a' := ?_) ?_ ?_
            rotate_left
            · simp only [putAll, Act.put, List.setIfInBounds_toArray, List.set_cons_zero, List.set_cons_succ]
              rfl
            replace a9 := aM a9
            have hz9 := cz13 a9
            refine sV 10 ?_
            refine pV 11 ?_
            refine done_ (by kernel_rfl) ?_
            try go_wp2
            go_meet
            case rel =>
              refine ⟨g, _, _, _, _, B, N, B1, N1, rfl, rfl, ⟨?_⟩, ⟨V6.on onL a9.out n69⟩, ⟨⟨kR a9, hO.on (Alien.one a9) onL, hBN⟩⟩, n69, ⟨hB.out⟩, ⟨hB1⟩⟩
              repeat (first | (with_reducible exact HB0) | (with_reducible refine Below.setCell ?_ f9 _))
          · intro hCont
            have hO1 := V6.O.rd
            refine twV 5 9 (fun K hK => ?_) (fun K hK => ?_)
            · refine cV Tryz.func7 (CS _ _ _ _ _ hO1) ?_
              rintro e u1 ⟨x2, rfl, hnp⟩
              obtain ⟨hb1, s2, p2, v2, o2, rfl, hO2⟩ := hnp.own
              have hBN4 := hb1.size
              refine ⟨_, rfl, ?_⟩
              refine hx hK (hHeld.below hb1) (fun hHeld2 => ?_)
              clear hK K
              refine pV 6 ?_
              refine pV 7 ?_
              refine pV 8 ?_
              refine oV 9 (fun K hK => ?_)
              refine bV #[.slice none 0 0, .int .i64 0, .int .i64 0, .int .i64 0, .int .i64 0, .slice none 0 0, .int .i64 0, .int .i64 0, .int .i64 0, .int .i64 0, .int .i64 0, .slice none 0 0, .slice none 0 0] 46 (fun g hg u2 a9 hbn => ?_)
              have hgg : w8.heap.size ≤ g := hg ▸ hb1.size
              have hb2' := below_step hb1 hbn
              refine hx hK (hHeld.below hb2') (fun hHeld3 => ?_)
              clear hK K
              exact nV (norm_ (by simp only [putAll, Act.put, List.setIfInBounds_toArray, List.set_cons_zero, List.set_cons_succ]) (hCont (.agg (cels E s2 p2 v2 o2), g) _ ⟨hb2', hgg, a9, _, _, _, _, _, _, rfl, Nat.le_refl _, hO2.below hbn, hBN4⟩))
            · refine bV #[.slice none 0 0, .int .i64 0, .int .i64 0, .int .i64 0, .int .i64 0, .slice none 0 0, .int .i64 0, .int .i64 0, .int .i64 0, .int .i64 0, .int .i64 0, .slice none 0 0, .slice none 0 0] 46 (fun g hg u1 a9 hb1 => ?_)
              refine hx hK (hHeld.below hb1) (fun hHeld2 => ?_)
              clear hK K
              refine oV 5 (fun K hK => ?_)
              refine cV Tryz.func7 (CS _ _ _ _ _ (hO1.below hb1)) ?_
              rintro e u2 ⟨x2, rfl, hnp⟩
              obtain ⟨hb2', s2, p2, v2, o2, rfl, hO2⟩ := hnp.own
              have hBN4 := hb2'.size
              have hb3 := below_step hb1 hb2'
              refine ⟨_, rfl, ?_⟩
              refine hx hK (hHeld.below hb3) (fun hHeld3 => ?_)
              clear hK K
              refine pV 6 ?_
              refine pV 7 ?_
              refine pV 8 ?_
              exact nV (norm_ (by simp only [putAll, Act.put, List.setIfInBounds_toArray, List.set_cons_zero, List.set_cons_succ]) (hCont (.agg (cels E s2 p2 v2 o2), g) _ ⟨hb3, Nat.le_of_eq hg.symm, blk_below a9 hb2', _, _, _, _, _, _, rfl, hb1.size, hO2, hBN4⟩))
        case rest =>
        obtain ⟨g9, s9, p9, v9, o9, B, N, B9, N9, rfl, rfl, HB0, V6, V9, n69, hB, hB9⟩ := hcut
        have hz6 := cz13 ⟨V6.out.a⟩
        have hz9 := cz13 ⟨V9.out.a⟩
        obtain ⟨sA, sC, pA, pC, vA, vC, oA, oC, rfl, rfl, rfl, rfl⟩ := V6.out.O.sl
        obtain ⟨sB, sD, pB, pD, vB, vD, oB, oD, rfl, rfl, rfl, rfl⟩ := V9.out.O.sl
        cases b with
        | true =>
          have hE := hE.resolve_right (by simp)
          have hr2 := hrun.out
          simp only [if_true] at hr2
          have hnb := And.intro n69 n69.symm
          have a6 := aM (show wc.heap[g6]? = some (.cells #[.slice sA P.g.f0.length sC, .int .i64 P.g.f1.f0, .int .i64 P.g.f1.f1, .int .i64 P.g.f1.f2, .int .i64 P.g.f1.f3, .slice pA P.g.f2.length pC, .int .i64 P.g.f3, .int .i64 P.g.f4.f0, .int .i64 P.g.f4.f1, .int .i64 P.g.f4.f2, .int .i64 P.g.f4.f3, .slice vA P.sv.length vC, .slice oA P.ob.length oC] 46 (0, 0)) from V6.out.a)
          go_wp2
          go_roundg (T.length - (j + 1))
          case measure => have := hj.out; omega
          case rel =>
            refine ⟨j + 1, E, _, _, _, _, B9, N9, by simp, ⟨by omega⟩, ⟨by rw [Int.natCast_add]; exact hr2⟩, ⟨hE⟩, ⟨?_⟩, ⟨⟨kR a6, V9.out.O.on (Alien.one a6) onL, V9.out.hBN⟩⟩, ⟨hB9.out⟩⟩
            repeat (first | (with_reducible exact HB0.out) | (with_reducible refine Below.setCell ?_ f6 _))
        | false =>
          have hr2 := hrun.out
          simp only [Bool.false_eq_true, if_false] at hr2
          have a2w := aM (blk_below a2.out HB0.out)
          have hz2 := cz13 a2w
          have hnb := And.intro n26 n62
          have HB := aM (below_step HB.out HB0.out)
          go_wp2
          refine bodyPost_ret (results_ct rfl _ _ b2 46 #[.slice sA P.g.f0.length sC, .int .i64 P.g.f1.f0, .int .i64 P.g.f1.f1, .int .i64 P.g.f1.f2, .int .i64 P.g.f1.f3, .slice pA P.g.f2.length pC, .int .i64 P.g.f3, .int .i64 P.g.f4.f0, .int .i64 P.g.f4.f1, .int .i64 P.g.f4.f2, .int .i64 P.g.f4.f3, .slice vA P.sv.length vC, .slice oA P.ob.length oC] (0, 0) _ rfl (kR a2w) Tryz.underlying46 rfl (by kernel_rfl)) rfl ?_
          rw [← hr2]
          exact ⟨_, rfl, (V6.out.O.on (Alien.one a2w) onL).new hB.out bS⟩
      · have hjT : j = T.length := by have := hj.out; omega
        subst hjT
        have hrun := hrun.out
        rw [List.drop_length] at hrun
        simp only [runV] at hrun
        have a2w := aM (blk_below a2.out HB0.out)
        have hz2 := cz13 a2w
        have hz6 := cz13 ⟨V6.out.a⟩
        have hnb := And.intro n26 n62
        have HB := aM (below_step HB.out HB0.out)
        obtain ⟨sA, sC, pA, pC, vA, vC, oA, oC, rfl, rfl, rfl, rfl⟩ := V6.out.O.sl
        go_wp2
        refine bodyPost_ret (results_ct rfl _ _ b2 46 #[.slice sA P.g.f0.length sC, .int .i64 P.g.f1.f0, .int .i64 P.g.f1.f1, .int .i64 P.g.f1.f2, .int .i64 P.g.f1.f3, .slice pA P.g.f2.length pC, .int .i64 P.g.f3, .int .i64 P.g.f4.f0, .int .i64 P.g.f4.f1, .int .i64 P.g.f4.f2, .int .i64 P.g.f4.f3, .slice vA P.sv.length vC, .slice oA P.ob.length oC] (0, 0) _ rfl (kR a2w) Tryz.underlying46 rfl (by kernel_rfl)) rfl ?_
        rw [← hrun]
        exact ⟨_, rfl, (V6.out.O.on (Alien.one a2w) onL).new hB.out bS⟩
end Go.Proofs.YtjkgponlahfnjaaGreat.Ex
