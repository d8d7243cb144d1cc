/- The law of ExecToken: what it calls. -/
import Derived.Test.YtjkgponlahfnjaaGreatExCp
import Derived.Test.YtjkgponlahfnjaaGreatExSe
set_option linter.unusedVariables false
set_option linter.unusedSimpArgs false
set_option maxHeartbeats 8000000
set_option maxRecDepth 100000
namespace Go.Proofs.YtjkgponlahfnjaaGreat.Ex
open Go.RowKit Go.Proofs.YtjkgponlahfnjaaGreatW.PrintWords Go.Proofs.YtjkgponlahfnjaaGreatW.PrintLast Go.Proofs.YtjkgponlahfnjaaGreatW.PrintMore
open Go.Proofs.YtjkgponlahfnjaaGreat.QFnExactExecToken Go.Proofs.YtjkgponlahfnjaaGreat.Pure Go.Proofs.YtjkgponlahfnjaaGreat.Plain
attribute [local go_sem] Tryz.underlying46 Tryz.underlying33 Tryz.underlying35 Tryz.underlying50
def lpM (q : LPg) : Prop := q.g.f0.length ≤ maxLen ∧ q.g.f2.length ≤ maxLen ∧ q.sv.length ≤ maxLen ∧ (∀ x ∈ q.sv, x.f0.length ≤ maxLen ∧ x.f2.length ≤ maxLen) ∧ q.ob.length ≤ maxLen ∧ ∀ x ∈ q.ob, x.f0.length ≤ maxLen
def szLP (q : LPg) : Int := szPg q.g.f0.length q.g.f2.length q.sv q.ob 1048576
theorem szLP_tells (q : LPg) : szLP q = -1 ∨ (0 ≤ szLP q ∧ lpN q) := by
  rcases szPg_tells q.g.f0.length q.g.f2.length q.sv q.ob 1048576 (by decide) (by decide) with h | ⟨h1, h2, h3, h4, h5⟩
  · exact .inl h
  · exact .inr ⟨h1, h2, h3, h4.1, h4.2, h5.1, h5.2⟩
section
variable {w : World} {q : LPg} {s p v o : Value}
theorem szPage_c (h : RdL w q s p v o) (hm : lpM q) : Calls Tryz.prog 5 #[.agg (lcels q s p v o), .int .i64 1048576] w (fun e w' => e = .returned (.int .i64 (szLP q)) ∧ Below w.heap.size w w') := by
  obtain ⟨h1, h2, h3, h4, h5, h6⟩ := hm
  obtain ⟨k, hk⟩ := szPage_ev q.g.f0 q.g.f1.f0 q.g.f1.f1 q.g.f1.f2 q.g.f1.f3 q.g.f2 q.g.f3 q.g.f4.f0 q.g.f4.f1 q.g.f4.f2 q.g.f4.f3 q.sv q.ob 1048576 h1 h2 h3 h4 h5 h6 (by decide) (by decide)
  obtain ⟨⟨A0, C0, rfl, a0, b0⟩, ⟨A1, C1, rfl, a1, b1⟩, ⟨A2, C2, rfl, a2, b2⟩, ⟨A3, C3, rfl, a3, b3⟩⟩ := h
  exact laws_szPage.calls k _ _ _ _ _ _ _ _ _ _ _ _ _ _ _ _ _ _ _ _ _ _ _ _ b0 a0 b1 a1 b2 a2 b3 a3 (hk k (Nat.le_refl _))
def szTk (nm : ByteArray) (L : Int) : Int := if L - nm.size < 0 then -1 else L - nm.size
theorem szToken_c {w : World} {nm : ByteArray} {n L : Int} (hz : nm.size ≤ maxLen) (h0 : 0 ≤ L) (h1 : L ≤ 1048576) : Calls Tryz.prog 6 #[.agg #[.string nm, .int .i64 n], .int .i64 L] w (fun e w' => e = .returned (.int .i64 (szTk nm L)) ∧ Below w.heap.size w w') := by
  refine laws_szToken.calls nm n L _ w ?_
  rw [maxLen_eq] at hz
  unfold laws_szToken.f szTk
  rw [wrap_id (by omega) (by omega)]
  split <;> rfl
theorem szTk_tells (nm : ByteArray) (L : Int) (h0 : 0 ≤ L) (h1 : L ≤ 1048576) : szTk nm L = -1 ∨ (0 ≤ szTk nm L ∧ nm.size ≤ 1048576) := by
  unfold szTk
  split
  · exact .inl rfl
  · exact .inr ⟨by omega, by omega⟩
theorem szLP_le (q : LPg) : szLP q ≤ 1048576 := by
  unfold szLP szPg
  have h1 := szG_tells q.g.f0.length q.g.f2.length 1048576 (by decide)
  generalize szG q.g.f0.length q.g.f2.length 1048576 = a at h1 ⊢
  split
  · decide
  · have h2 := szGS_tells q.sv a (by omega) (by omega)
    generalize szGS q.sv a = b at h2 ⊢
    split
    · decide
    · have h3 := szOS_tells q.ob b (by omega) (by omega)
      omega
theorem lnPg_nn {q : Pg} (h : pgN 1048576 q) : ¬ 1 + lnPg q < 0 := by
  obtain ⟨b1, b2, b3, b4⟩ := lnPg_bd h
  unfold lnPg
  omega
theorem exec_n {Q : Pg} (h : pgN 1048576 Q) (nm : ByteArray) (n : Int) : pgN 1048576 (exec Q nm n).1 := by
  by_cases hb : (exec Q nm n).2 = true
  · exact pgN_mono (okP_small (exec_ok hb)).1 (by decide)
  · have e : (exec Q nm n).1 = Q := by
      unfold exec at hb ⊢
      split at hb
      · rename_i h2
        rw [if_pos h2]
        revert hb
        generalize stepV Q nm n = z
        unfold finV
        rcases z with _ | r
        · exact fun _ => rfl
        · dsimp only
          split
          · exact fun hb => absurd rfl hb
          · exact fun _ => rfl
      · rename_i h2
        rw [if_neg h2]
    rw [e]
    exact h
theorem OwnP.sl {w : World} {B N : Nat} {q : Pg} {s p v o : Value} (h : OwnP w B N q s p v o) : ∃ sA sC pA pC vA vC oA oC, s = .slice sA q.g.f0.length sC ∧ p = .slice pA q.g.f2.length pC ∧ v = .slice vA q.sv.length vC ∧ o = .slice oA q.ob.length oC := by
  obtain ⟨⟨c, hR, _⟩, _⟩ := h
  obtain ⟨sA, sC, rfl⟩ := Kd.R_slice hR.hs
  obtain ⟨pA, pC, rfl⟩ := Kd.R_slice hR.hp
  obtain ⟨vA, vC, rfl⟩ := Kd.S_slice hR.hv
  obtain ⟨oA, oC, rfl⟩ := Kd.S_slice hR.ho
  exact ⟨sA, sC, pA, pC, vA, vC, oA, oC, rfl, rfl, rfl, rfl⟩
theorem OnL.keep {w w1 : World} {l : List Nat} {k : Nat} {o : Obj} (h : OnL l w w1) (hk : w.heap[k]? = some o) (hl : k ∉ l) : w1.heap[k]? = some o := (h.2 k (blk_lt hk) hl).trans hk
structure VP (w : World) (g : Nat) (E : Pg) (B N : Nat) (s p v o : Value) : Prop where
  a : w.heap[g]? = some (.cells (cels E s p v o) 46 (0, 0))
  O : OwnP w B N E s p v o
  hBN : B ≤ N
section
variable {w w1 : World} {g g' B N B' N' : Nat} {E : Pg} {s p v o : Value} {S : Nat → Prop}
theorem VP.below (h : VP w g E B N s p v o) (hb : Below w.heap.size w w1) : VP w1 g E B N s p v o := ⟨blk_below h.a hb, h.O.below hb, h.hBN⟩
theorem VP.on (h : VP w g E B N s p v o) (hW : OnL [g'] w w1) {cs : Array Value} (hg : w.heap[g']? = some (.cells cs 46 (0, 0))) (hn : g ≠ g') : VP w1 g E B N s p v o := ⟨OnL.keep hW h.a (by simpa using hn), h.O.on (Alien.one ⟨hg⟩) hW, h.hBN⟩
theorem ty_ {cs : Array Value} {t k : Nat} (h : w.heap[k]? = some (.cells cs t (0, 0))) (ht : t ∉ [3, 111, 42, 103]) : ¬ Typed w k := fun ⟨cs', t', h', ht'⟩ => by
  rw [h] at h'
  injection h' with h'
  injection h' with _ h'
  exact ht (h' ▸ ht')
theorem keepB {cs : Array Value} {t k : Nat} (h : w.heap[k]? = some (.cells cs t (0, 0))) (hk : Kept w w1 (fun k => B ≤ k ∧ k < N ∧ Typed w k)) (ht : t ∉ [3, 111, 42, 103] := by decide) : w1.heap[k]? = some (.cells cs t (0, 0)) := blk_kept h hk (fun hh => ty_ h ht hh.2.2)
theorem VP.kept (h : VP w g E B N s p v o) (hk : Kept w w1 (fun k => B' ≤ k ∧ k < N' ∧ Typed w k)) (hd : N ≤ B' ∨ N' ≤ B) : VP w1 g E B N s p v o := ⟨keepB h.a hk, h.O.kept hk (fun k h1 h2 h3 => by omega), h.hBN⟩
theorem VP.le (h : VP w g E B N s p v o) : B ≤ w.heap.size := Nat.le_trans h.hBN h.O.hN
end
theorem toToken_c {w : World} {nm : ByteArray} {n : Int} : Calls Tryz.prog 9 #[.agg #[.string nm, .int .i64 n]] w (fun e w' => e = .returned (.agg #[.string nm, .int .i64 n]) ∧ Below w.heap.size w w') :=
  laws_toToken.calls nm n nm n w rfl
end
end Go.Proofs.YtjkgponlahfnjaaGreat.Ex
namespace Go.Proofs.YtjkgponlahfnjaaGreat.Ex
open Go.RowKit Go.Proofs.YtjkgponlahfnjaaGreatW.PrintWords Go.Proofs.YtjkgponlahfnjaaGreatW.PrintLast Go.Proofs.YtjkgponlahfnjaaGreatW.PrintMore
open Go.Proofs.YtjkgponlahfnjaaGreat.QFnExactExecToken Go.Proofs.YtjkgponlahfnjaaGreat.Pure Go.Proofs.YtjkgponlahfnjaaGreat.Plain
attribute [local go_sem] Tryz.underlying46 Tryz.underlying33 Tryz.underlying35 Tryz.underlying50
structure LS (w0 : World) (q : LPg) (s p v o : Value) (nm : ByteArray) (n : Int) (b2 b3 : Nat) (w : World) : Prop where
  a2 : w.heap[b2]? = some (.cells (lcels q s p v o) 33 (0, 0))
  a3 : w.heap[b3]? = some (.cells #[.string nm, .int .i64 n] 35 (0, 0))
  HB : Below w0.heap.size w0 w
section
variable {w0 w w1 : World} {q : LPg} {s p v o : Value} {nm : ByteArray} {n : Int} {b2 b3 g B N : Nat}
theorem ne_ty {w : World} {k k' t t' : Nat} {cs cs' : Array Value} (h : w.heap[k]? = some (.cells cs t (0, 0))) (h' : w.heap[k']? = some (.cells cs' t' (0, 0))) (e : k = k') (ht : t ≠ t') : False := by
  subst e
  rw [h] at h'
  injection h' with h'
  injection h' with _ h'
  exact ht h'
theorem LS.below (h : LS w0 q s p v o nm n b2 b3 w) (hb : Below w.heap.size w w1) : LS w0 q s p v o nm n b2 b3 w1 := ⟨blk_below h.a2 hb, blk_below h.a3 hb, below_step h.HB hb⟩
theorem LS.on (h : LS w0 q s p v o nm n b2 b3 w) (hW : OnL [g] w w1) (hb : Below w0.heap.size w0 w1) {cs : Array Value} (hg : w.heap[g]? = some (.cells cs 46 (0, 0))) : LS w0 q s p v o nm n b2 b3 w1 :=
  ⟨OnL.keep hW h.a2 (fun hm => ne_ty hg h.a2 (List.mem_singleton.1 hm).symm (by decide)), OnL.keep hW h.a3 (fun hm => ne_ty hg h.a3 (List.mem_singleton.1 hm).symm (by decide)), hb⟩
theorem LS.kept (h : LS w0 q s p v o nm n b2 b3 w) (hk : Kept w w1 (fun k => B ≤ k ∧ k < N ∧ Typed w k)) (hb : Below B w w1) (hB : w0.heap.size ≤ B) : LS w0 q s p v o nm n b2 b3 w1 := ⟨keepB h.a2 hk, keepB h.a3 hk, h.HB.trans (hb.mono hB)⟩
end
theorem law_c {w : World} {q : LPg} {s p v o : Value} {nm : ByteArray} {n : Int} (h : RdL w q s p v o) (hm : lpM q) (hz : nm.size ≤ maxLen) : Calls Tryz.prog 3 #[.agg (lcels q s p v o), .agg #[.string nm, .int .i64 n]] w (fun e w' => e = .returned (.bool true) ∧ Below w.heap.size w w') := by
  replace h := aM h
  replace hm := aM hm
  replace hz := aM hz
  have HB := aM (Below.refl w.heap.size w)
  have hsz := szLP_tells q
  have hsz2 := szLP_le q
  have hP := fun w' (h : RdL w' q s p v o) => szPage_c h hm.out
  generalize szLP q = L at hsz hsz2 hP
  simp only [lcels]
  go_enter Tryz.func3, Tryz.ntmps3
  go_upto_region 3 with (first | ((with_reducible refine gD 2 ?_); refine bxE (lcels q s p v o) 33 ?_; intro b2 hg w4 a2 hb; replace HB := hB hb; clear hb hg; simp only [lcels] at a2) | ((with_reducible refine gD 3 ?_); refine bxE #[.string nm, .int .i64 n] 35 ?_; intro b3 hg w5 a3 hb; replace a2 := kB_ b2 hb; replace HB := hB hb; clear hb hg; have hz2 := cz13 a2) | ((with_reducible refine gC 5 ?_); refine cM (some 18) Tryz.func5 (hP _ (h.out.below HB.out)) ?_; rintro e w6 ⟨rfl, hb⟩; refine ⟨_, rfl, ?_⟩; replace a2 := kB_ b2 hb; replace a3 := kB_ b3 hb; replace HB := hB hb; clear hb))
  rcases hsz with rfl | ⟨hL, hn⟩
  · go_wp2
    go_ret
    exact ⟨rfl, bS⟩
  have hT := fun w' => szToken_c (w := w') (n := n) hz.out hL hsz2
  have htk := szTk_tells nm L hL hsz2
  generalize szTk nm L = M at hT htk
  have hLn : ¬ L < 0 := by omega
  have hz3 := cz2 a3
  go_upto_region 6 with (first | ((with_reducible refine gC 6 ?_); refine cM (some 23) Tryz.func6 (hT _) ?_; rintro e w7 ⟨rfl, hb⟩; refine ⟨_, rfl, ?_⟩; replace a2 := kB_ b2 hb; replace a3 := kB_ b3 hb; replace HB := hB hb; clear hb))
  rcases htk with rfl | ⟨hM, hz2m⟩
  · go_wp2
    go_ret
    exact ⟨rfl, bS⟩
  have hMn : ¬ M < 0 := by omega
  go_upto_region 8 with (fail)
  clear hM hMn hL hLn hT hP hz2 hz3 hm hsz2
  have hQn := tPg_n hn
  have CP := fun w' (h : RdL w' q s p v o) => toPage_c h hn
  generalize tPg q = Q at hQn CP
  have hEn := exec_n hQn nm n
  have CS := fun w' s p v o (h : RdP w' Q s p v o) => sexec_c (nm := nm) (n := n) h hQn (by omega)
  have CI := fun w' s p v o (h : RdP w' Q s p v o) => iexec_c (nm := nm) (n := n) h hQn
  generalize exec Q nm n = R at hEn CS CI
  obtain ⟨E, b⟩ := R
  dsimp only at hEn CS CI
  clear hz2m hn hz
  have F := aM (show LS w q s p v o nm n b2 b3 _ from ⟨a2.out, a3.out, HB.out⟩)
  clear a2 a3 HB
  (try simp only [Act.put, List.setIfInBounds_toArray, List.set_cons_zero, List.set_cons_succ])
  go_cut [6, 7] (fun v6 v7 wc => ∃ (g : Nat) (s1 p1 v1 o1 : Value) (B N : Nat), v6 = .pointer (some ⟨g, 0, none⟩) ∧ v7 = .bool b ∧ Aside0 (LS w q s p v o nm n b2 b3 wc) ∧ Aside0 (VP wc g E B N s1 p1 v1 o1) ∧ Aside0 (w.heap.size ≤ B))
  case first =>
    refine sta (a := b2) (w0 := w) (lk := []) (B := w.heap.size) 11 [9] [(⟨b3, 0, none⟩, .string nm), (⟨b3, 1, none⟩, .int .i64 n)] ⟨F.out.a2⟩ (by have := cz2 (aM F.out.a3); simp [this]) ⟨Fr.of (Nat.le_refl _) F.out.HB⟩ (fun w8 hb0 F0 hHeld => ?_)
    refine tV 0 ?_
    refine tV 2 ?_
    have F8 := F.out.below hb0
    have hR := h.out.below F8.HB
    refine join_ (σ := Value × Value × Nat) 2 (mB 11 511) (fun s_ => [(28, s_.1), (30, .agg #[.string nm, .int .i64 n]), (31, .tuple #[s_.2.1, .bool b]), (26, .tuple #[s_.2.1, .bool b]), (32, s_.2.1), (33, .bool b), (6, .pointer (some ⟨s_.2.2, 0, none⟩))]) (fun s_ w' => Below w8.heap.size w8 w' ∧ w8.heap.size ≤ s_.2.2 ∧ w'.heap[s_.2.2]? = some (.cells #[.slice none 0 0, .int .i64 0, .int .i64 0, .int .i64 0, .int .i64 0, .slice none 0 0, .int .i64 0, .int .i64 0, .int .i64 0, .int .i64 0, .int .i64 0, .slice none 0 0, .slice none 0 0] 46 (0, 0)) ∧ ∃ s1 p1 v1 o1 B N, s_.2.1 = .agg (cels E s1 p1 v1 o1) ∧ w8.heap.size ≤ B ∧ OwnP w' B N E s1 p1 v1 o1 ∧ B ≤ N) ?_ ?_
    · rintro ⟨x1, x2, g⟩ w9 ⟨hb, hg, a6, s1, p1, v1, o1, B, N, rfl, hBB, hO, hBN⟩
      dsimp only at hg a6
      obtain ⟨sA, sC, pA, pC, vA, vC, oA, oC, rfl, rfl, rfl, rfl⟩ := hO.sl
      simp only [cels]
      replace F8 := F8.below hb
      have gE6 : Aside0 (w.heap.size ≤ g) := ⟨by have := (F.out.below hb0).HB.size; omega⟩
      have HB := aM F8.HB
      refine norm_ (a' := ?_) ?_ ?_
      rotate_left
      · simp only [putAll, Act.put, List.setIfInBounds_toArray, List.set_cons_zero, List.set_cons_succ]
        rfl
      replace a6 := aM a6
      have hz6 := cz13 a6
      refine sV 9 ?_
      refine pV 10 ?_
      refine done_ (by kernel_rfl) ?_
      try go_wp2
      go_meet
      case rel => exact ⟨g, _, _, _, _, B, N, rfl, rfl, ⟨F8.on onL bS a6.out⟩, ⟨⟨kR a6, hO.on (Alien.one a6) onL, hBN⟩⟩, ⟨by have := (F.out.below hb0).HB.size; omega⟩⟩
    · intro hCont
      refine twV 1 8 (fun K hK => ?_) (fun K hK => ?_)
      ·refine cV Tryz.func8 (CP _ (hR.below (Below.refl w8.heap.size w8))) ?_
       rintro e u1 ⟨x1, rfl, hnp⟩
       obtain ⟨hbn, s1, p1, v1, o1, rfl, hO1⟩ := hnp.own
       replace hO1 := hO1.rd
       have hb2 := below_step (Below.refl w8.heap.size w8) hbn
       refine ⟨_, rfl, ?_⟩
       refine hx hK (hHeld.below hb2) (fun hHeld2 => ?_)
       clear hK K
       refine twV 3 8 (fun K hK => ?_) (fun K hK => ?_)
       ·refine cV Tryz.func9 toToken_c ?_
        rintro e u3 ⟨rfl, hbn⟩
        replace hO1 := hO1.below hbn
        have hb4 := below_step hb2 hbn
        refine ⟨_, rfl, ?_⟩
        refine hx hK (hHeld.below hb4) (fun hHeld2 => ?_)
        clear hK K
        refine twV 4 8 (fun K hK => ?_) (fun K hK => ?_)
        ·refine cV Tryz.func7 (CS _ _ _ _ _ hO1) ?_
         rintro e u5 ⟨x2, rfl, hnp⟩
         have hB4 := Below.size hb4
         obtain ⟨hbn, s2, p2, v2, o2, rfl, hO2⟩ := hnp.own
         have hBN4 := hbn.size
         have hb6 := below_step hb4 hbn
         refine ⟨_, rfl, ?_⟩
         refine hx hK (hHeld.below hb6) (fun hHeld2 => ?_)
         clear hK K
         refine pV 5 ?_
         refine pV 6 ?_
         refine pV 7 ?_
         refine oV 8 (fun K hK => ?_)
         refine bV #[.slice none 0 0, .int .i64 0, .int .i64 0, .int .i64 0, .int .i64 0, .slice none 0 0, .int .i64 0, .int .i64 0, .int .i64 0, .int .i64 0, .int .i64 0, .slice none 0 0, .slice none 0 0] 46 (fun g hg u7 a6 hbn => ?_)
         have hgg : w8.heap.size ≤ g := hg ▸ Below.size hb6
         have hb8 := below_step hb6 hbn
         refine hx hK (hHeld.below hb8) (fun hHeld2 => ?_)
         clear hK K
         replace hO2 := hO2.below hbn
         exact nV (norm_ (by simp only [putAll, Act.put, List.setIfInBounds_toArray, List.set_cons_zero, List.set_cons_succ]) (hCont (.agg (cels Q s1 p1 v1 o1), .agg (cels E s2 p2 v2 o2), g) _ ⟨hb8, hgg, a6, _, _, _, _, _, _, rfl, hB4, hO2, hBN4⟩))
        ·refine bV #[.slice none 0 0, .int .i64 0, .int .i64 0, .int .i64 0, .int .i64 0, .slice none 0 0, .int .i64 0, .int .i64 0, .int .i64 0, .int .i64 0, .int .i64 0, .slice none 0 0, .slice none 0 0] 46 (fun g hg u9 a6 hbn => ?_)
         have hgg : w8.heap.size ≤ g := hg ▸ Below.size hb4
         have hb10 := below_step hb4 hbn
         refine hx hK (hHeld.below hb10) (fun hHeld2 => ?_)
         clear hK K
         replace hO1 := hO1.below hbn
         refine oV 4 (fun K hK => ?_)
         refine cV Tryz.func7 (CS _ _ _ _ _ hO1) ?_
         rintro e u11 ⟨x2, rfl, hnp⟩
         have hB4 := Below.size hb10
         obtain ⟨hbn, s2, p2, v2, o2, rfl, hO2⟩ := hnp.own
         have hBN4 := hbn.size
         replace a6 := blk_below a6 hbn
         have hb12 := below_step hb10 hbn
         refine ⟨_, rfl, ?_⟩
         refine hx hK (hHeld.below hb12) (fun hHeld2 => ?_)
         clear hK K
         refine pV 5 ?_
         refine pV 6 ?_
         refine pV 7 ?_
         exact nV (norm_ (by simp only [putAll, Act.put, List.setIfInBounds_toArray, List.set_cons_zero, List.set_cons_succ]) (hCont (.agg (cels Q s1 p1 v1 o1), .agg (cels E s2 p2 v2 o2), g) _ ⟨hb12, hgg, a6, _, _, _, _, _, _, rfl, hB4, hO2, hBN4⟩))
       ·refine bV #[.slice none 0 0, .int .i64 0, .int .i64 0, .int .i64 0, .int .i64 0, .slice none 0 0, .int .i64 0, .int .i64 0, .int .i64 0, .int .i64 0, .int .i64 0, .slice none 0 0, .slice none 0 0] 46 (fun g hg u13 a6 hbn => ?_)
        have hgg : w8.heap.size ≤ g := hg ▸ Below.size hb2
        have hb14 := below_step hb2 hbn
        refine hx hK (hHeld.below hb14) (fun hHeld2 => ?_)
        clear hK K
        replace hO1 := hO1.below hbn
        refine oV 3 (fun K hK => ?_)
        refine cV Tryz.func9 toToken_c ?_
        rintro e u15 ⟨rfl, hbn⟩
        replace hO1 := hO1.below hbn
        replace a6 := blk_below a6 hbn
        have hb16 := below_step hb14 hbn
        refine ⟨_, rfl, ?_⟩
        refine hx hK (hHeld.below hb16) (fun hHeld2 => ?_)
        clear hK K
        refine oV 4 (fun K hK => ?_)
        refine cV Tryz.func7 (CS _ _ _ _ _ hO1) ?_
        rintro e u17 ⟨x2, rfl, hnp⟩
        have hB4 := Below.size hb16
        obtain ⟨hbn, s2, p2, v2, o2, rfl, hO2⟩ := hnp.own
        have hBN4 := hbn.size
        replace a6 := blk_below a6 hbn
        have hb18 := below_step hb16 hbn
        refine ⟨_, rfl, ?_⟩
        refine hx hK (hHeld.below hb18) (fun hHeld2 => ?_)
        clear hK K
        refine pV 5 ?_
        refine pV 6 ?_
        refine pV 7 ?_
        exact nV (norm_ (by simp only [putAll, Act.put, List.setIfInBounds_toArray, List.set_cons_zero, List.set_cons_succ]) (hCont (.agg (cels Q s1 p1 v1 o1), .agg (cels E s2 p2 v2 o2), g) _ ⟨hb18, hgg, a6, _, _, _, _, _, _, rfl, hB4, hO2, hBN4⟩))
      ·refine bV #[.slice none 0 0, .int .i64 0, .int .i64 0, .int .i64 0, .int .i64 0, .slice none 0 0, .int .i64 0, .int .i64 0, .int .i64 0, .int .i64 0, .int .i64 0, .slice none 0 0, .slice none 0 0] 46 (fun g hg u19 a6 hbn => ?_)
       have hgg : w8.heap.size ≤ g := hg ▸ Below.size (Below.refl w8.heap.size w8)
       have hb20 := below_step (Below.refl w8.heap.size w8) hbn
       refine hx hK (hHeld.below hb20) (fun hHeld2 => ?_)
       clear hK K
       refine oV 1 (fun K hK => ?_)
       refine cV Tryz.func8 (CP _ (hR.below hb20)) ?_
       rintro e u21 ⟨x1, rfl, hnp⟩
       obtain ⟨hbn, s1, p1, v1, o1, rfl, hO1⟩ := hnp.own
       replace hO1 := hO1.rd
       replace a6 := blk_below a6 hbn
       have hb22 := below_step hb20 hbn
       refine ⟨_, rfl, ?_⟩
       refine hx hK (hHeld.below hb22) (fun hHeld2 => ?_)
       clear hK K
       refine oV 3 (fun K hK => ?_)
       refine cV Tryz.func9 toToken_c ?_
       rintro e u23 ⟨rfl, hbn⟩
       replace hO1 := hO1.below hbn
       replace a6 := blk_below a6 hbn
       have hb24 := below_step hb22 hbn
       refine ⟨_, rfl, ?_⟩
       refine hx hK (hHeld.below hb24) (fun hHeld2 => ?_)
       clear hK K
       refine oV 4 (fun K hK => ?_)
       refine cV Tryz.func7 (CS _ _ _ _ _ hO1) ?_
       rintro e u25 ⟨x2, rfl, hnp⟩
       have hB4 := Below.size hb24
       obtain ⟨hbn, s2, p2, v2, o2, rfl, hO2⟩ := hnp.own
       have hBN4 := hbn.size
       replace a6 := blk_below a6 hbn
       have hb26 := below_step hb24 hbn
       refine ⟨_, rfl, ?_⟩
       refine hx hK (hHeld.below hb26) (fun hHeld2 => ?_)
       clear hK K
       refine pV 5 ?_
       refine pV 6 ?_
       refine pV 7 ?_
       exact nV (norm_ (by simp only [putAll, Act.put, List.setIfInBounds_toArray, List.set_cons_zero, List.set_cons_succ]) (hCont (.agg (cels Q s1 p1 v1 o1), .agg (cels E s2 p2 v2 o2), g) _ ⟨hb26, hgg, a6, _, _, _, _, _, _, rfl, hB4, hO2, hBN4⟩))
  case rest =>
  obtain ⟨g6, s6, p6, v6, o6, B6, N6, rfl, rfl, F, V6, hB6⟩ := hcut
  go_upto_region 9 with (fail)
  (try simp only [Act.put, List.setIfInBounds_toArray, List.set_cons_zero, List.set_cons_succ])
  go_cut [8] (fun v8 wc => ∃ (g : Nat) (s1 p1 v1 o1 : Value) (B N : Nat), v8 = .pointer (some ⟨g, 0, none⟩) ∧ Aside0 (LS w q s p v o nm n b2 b3 wc) ∧ Aside0 (VP wc g6 E B6 N6 s6 p6 v6 o6) ∧ Aside0 (VP wc g Q B N s1 p1 v1 o1) ∧ Aside0 (N6 ≤ B) ∧ Aside0 (w.heap.size ≤ B) ∧ g6 < g)
  case first =>
    have hz2 := cz13 ⟨F.out.a2⟩
    go_wp2_with (first | ((with_reducible refine gC 8 ?_); refine cM (some 35) Tryz.func8 (CP _ (h.out.below F.out.HB)) ?_; rintro e w9 ⟨x1, rfl, hnp⟩; obtain ⟨hb, s1, p1, v1, o1, rfl, hO⟩ := hnp.own; have hBB := F.out.HB.size; have hBN := hb.size; have hN6 := V6.out.O.hN; refine ⟨_, rfl, ?_⟩; replace F := aM (F.out.below hb); replace V6 := aM (V6.out.below hb); clear hb hnp; have HB := aM F.out.HB; obtain ⟨sA, sC, pA, pC, vA, vC, oA, oC, rfl, rfl, rfl, rfl⟩ := hO.sl; simp only [cels]) | ((with_reducible refine gD 8 ?_); refine bxE #[.slice none 0 0, .int .i64 0, .int .i64 0, .int .i64 0, .int .i64 0, .slice none 0 0, .int .i64 0, .int .i64 0, .int .i64 0, .int .i64 0, .int .i64 0, .slice none 0 0, .slice none 0 0] 46 ?_; intro g hg w10 a8 hb; have gE8 := gE hg; have n68 : g6 < g := hg ▸ blk_lt V6.out.a; replace F := aM (F.out.below hb); replace V6 := aM (V6.out.below hb); replace HB := hB hb; replace hO := hO.below hb; clear hb hg; have hz8 := cz13 a8))
    go_meet
    case rel => exact ⟨g, _, _, _, _, _, _, rfl, ⟨F.out.on onL bS a8.out⟩, ⟨V6.out.on onL a8.out (Nat.ne_of_lt n68)⟩, ⟨⟨kR a8, hO.on (Alien.one a8) onL, hBN⟩⟩, ⟨hN6⟩, ⟨hBB⟩, n68⟩
  case rest =>
  obtain ⟨g8, s8, p8, v8, o8, B8, N8, rfl, F, V6, V8, hB8, hBw8, n68⟩ := hcut
  go_upto_region 10 with (fail)
  (try simp only [Act.put, List.setIfInBounds_toArray, List.set_cons_zero, List.set_cons_succ])
  go_cut [9, 10] (fun v9 v10 wc => ∃ (g : Nat) (s1 p1 v1 o1 : Value) (B N : Nat), v9 = .pointer (some ⟨g, 0, none⟩) ∧ v10 = .bool b ∧ Aside0 (LS w q s p v o nm n b2 b3 wc) ∧ Aside0 (VP wc g6 E B6 N6 s6 p6 v6 o6) ∧ Aside0 (VP wc g8 Q B8 N8 s8 p8 v8 o8) ∧ Aside0 (VP wc g E B N s1 p1 v1 o1) ∧ Aside0 (N8 ≤ B) ∧ Aside0 (N6 ≤ B) ∧ Aside0 (w.heap.size ≤ B))
  case first =>
    refine sta (a := g8) (w0 := w) (lk := []) (B := w.heap.size) 10 [8] [(⟨b3, 0, none⟩, .string nm), (⟨b3, 1, none⟩, .int .i64 n)] ⟨V8.out.a⟩ (by have := cz2 (aM F.out.a3); simp [this]) ⟨Fr.of (Nat.le_refl _) F.out.HB⟩ (fun w8 hb0 F0 hHeld => ?_)
    refine tV 0 ?_
    refine tV 1 ?_
    have hO1 := (V8.out.below hb0).O.rd
    have F8 := F.out.below hb0
    have hR := h.out.below F8.HB
    refine join_ (σ := Value × Value × Nat) 2 (mB 10 255) (fun s_ => [(39, .agg #[.string nm, .int .i64 n]), (40, .tuple #[s_.2.1, .bool b]), (36, .tuple #[s_.2.1, .bool b]), (41, s_.2.1), (42, .bool b), (9, .pointer (some ⟨s_.2.2, 0, none⟩))]) (fun s_ w' => Below w8.heap.size w8 w' ∧ w8.heap.size ≤ s_.2.2 ∧ w'.heap[s_.2.2]? = some (.cells #[.slice none 0 0, .int .i64 0, .int .i64 0, .int .i64 0, .int .i64 0, .slice none 0 0, .int .i64 0, .int .i64 0, .int .i64 0, .int .i64 0, .int .i64 0, .slice none 0 0, .slice none 0 0] 46 (0, 0)) ∧ ∃ s1 p1 v1 o1 B N, s_.2.1 = .agg (cels E s1 p1 v1 o1) ∧ w8.heap.size ≤ B ∧ OwnP w' B N E s1 p1 v1 o1 ∧ B ≤ N) ?_ ?_
    · rintro ⟨x1, x2, g⟩ w9 ⟨hb, hg, a6, s1, p1, v1, o1, B, N, rfl, hBB, hO, hBN⟩
      dsimp only at hg a6
      obtain ⟨sA, sC, pA, pC, vA, vC, oA, oC, rfl, rfl, rfl, rfl⟩ := hO.sl
      simp only [cels]
      replace F8 := F8.below hb
      have n6 : g6 ≠ g := by have := blk_lt (V6.out.below hb0).a; omega
      have n8 : g8 ≠ g := by have := blk_lt (V8.out.below hb0).a; omega
      have h8B : N8 ≤ B := Nat.le_trans (V8.out.below hb0).O.hN hBB
      have h6B : N6 ≤ B := Nat.le_trans (V6.out.below hb0).O.hN hBB
      have hwB : w.heap.size ≤ B := Nat.le_trans (F.out.below hb0).HB.size hBB
      replace V6 := (V6.out.below hb0).below hb
      replace V8 := (V8.out.below hb0).below hb
      have gE6 : Aside0 (w.heap.size ≤ g) := ⟨by have := (F.out.below hb0).HB.size; omega⟩
      have HB := aM F8.HB
      refine norm_ (a' := ?_) ?_ ?_
      rotate_left
      · simp only [putAll, Act.put, List.setIfInBounds_toArray, List.set_cons_zero, List.set_cons_succ]
        rfl
      replace a6 := aM a6
      have hz6 := cz13 a6
      refine sV 8 ?_
      refine pV 9 ?_
      refine done_ (by kernel_rfl) ?_
      try go_wp2
      go_meet
      case rel => exact ⟨g, _, _, _, _, B, N, rfl, rfl, ⟨F8.on onL bS a6.out⟩, ⟨V6.on onL a6.out n6⟩, ⟨V8.on onL a6.out n8⟩, ⟨⟨kR a6, hO.on (Alien.one a6) onL, hBN⟩⟩, ⟨h8B⟩, ⟨h6B⟩, ⟨hwB⟩⟩
    · intro hCont
      refine twV 2 7 (fun K hK => ?_) (fun K hK => ?_)
      ·refine cV Tryz.func9 toToken_c ?_
       rintro e u1 ⟨rfl, hbn⟩
       replace hO1 := hO1.below hbn
       have hb2 := below_step (Below.refl w8.heap.size w8) hbn
       refine ⟨_, rfl, ?_⟩
       refine hx hK (hHeld.below hb2) (fun hHeld2 => ?_)
       clear hK K
       refine twV 3 7 (fun K hK => ?_) (fun K hK => ?_)
       ·refine cV Tryz.func10 (CI _ _ _ _ _ hO1) ?_
        rintro e u3 ⟨x2, rfl, hnp⟩
        have hB4 := Below.size hb2
        obtain ⟨hbn, s2, p2, v2, o2, rfl, hO2⟩ := hnp.own
        have hBN4 := hbn.size
        have hb4 := below_step hb2 hbn
        refine ⟨_, rfl, ?_⟩
        refine hx hK (hHeld.below hb4) (fun hHeld2 => ?_)
        clear hK K
        refine pV 4 ?_
        refine pV 5 ?_
        refine pV 6 ?_
        refine oV 7 (fun K hK => ?_)
        refine bV #[.slice none 0 0, .int .i64 0, .int .i64 0, .int .i64 0, .int .i64 0, .slice none 0 0, .int .i64 0, .int .i64 0, .int .i64 0, .int .i64 0, .int .i64 0, .slice none 0 0, .slice none 0 0] 46 (fun g hg u5 a6 hbn => ?_)
        have hgg : w8.heap.size ≤ g := hg ▸ Below.size hb4
        have hb6 := below_step hb4 hbn
        refine hx hK (hHeld.below hb6) (fun hHeld2 => ?_)
        clear hK K
        replace hO2 := hO2.below hbn
        exact nV (norm_ (by simp only [putAll, Act.put, List.setIfInBounds_toArray, List.set_cons_zero, List.set_cons_succ]) (hCont (undef, .agg (cels E s2 p2 v2 o2), g) _ ⟨hb6, hgg, a6, _, _, _, _, _, _, rfl, hB4, hO2, hBN4⟩))
       ·refine bV #[.slice none 0 0, .int .i64 0, .int .i64 0, .int .i64 0, .int .i64 0, .slice none 0 0, .int .i64 0, .int .i64 0, .int .i64 0, .int .i64 0, .int .i64 0, .slice none 0 0, .slice none 0 0] 46 (fun g hg u7 a6 hbn => ?_)
        have hgg : w8.heap.size ≤ g := hg ▸ Below.size hb2
        have hb8 := below_step hb2 hbn
        refine hx hK (hHeld.below hb8) (fun hHeld2 => ?_)
        clear hK K
        replace hO1 := hO1.below hbn
        refine oV 3 (fun K hK => ?_)
        refine cV Tryz.func10 (CI _ _ _ _ _ hO1) ?_
        rintro e u9 ⟨x2, rfl, hnp⟩
        have hB4 := Below.size hb8
        obtain ⟨hbn, s2, p2, v2, o2, rfl, hO2⟩ := hnp.own
        have hBN4 := hbn.size
        replace a6 := blk_below a6 hbn
        have hb10 := below_step hb8 hbn
        refine ⟨_, rfl, ?_⟩
        refine hx hK (hHeld.below hb10) (fun hHeld2 => ?_)
        clear hK K
        refine pV 4 ?_
        refine pV 5 ?_
        refine pV 6 ?_
        exact nV (norm_ (by simp only [putAll, Act.put, List.setIfInBounds_toArray, List.set_cons_zero, List.set_cons_succ]) (hCont (undef, .agg (cels E s2 p2 v2 o2), g) _ ⟨hb10, hgg, a6, _, _, _, _, _, _, rfl, hB4, hO2, hBN4⟩))
      ·refine bV #[.slice none 0 0, .int .i64 0, .int .i64 0, .int .i64 0, .int .i64 0, .slice none 0 0, .int .i64 0, .int .i64 0, .int .i64 0, .int .i64 0, .int .i64 0, .slice none 0 0, .slice none 0 0] 46 (fun g hg u11 a6 hbn => ?_)
       have hgg : w8.heap.size ≤ g := hg ▸ Below.size (Below.refl w8.heap.size w8)
       have hb12 := below_step (Below.refl w8.heap.size w8) hbn
       refine hx hK (hHeld.below hb12) (fun hHeld2 => ?_)
       clear hK K
       replace hO1 := hO1.below hbn
       refine oV 2 (fun K hK => ?_)
       refine cV Tryz.func9 toToken_c ?_
       rintro e u13 ⟨rfl, hbn⟩
       replace hO1 := hO1.below hbn
       replace a6 := blk_below a6 hbn
       have hb14 := below_step hb12 hbn
       refine ⟨_, rfl, ?_⟩
       refine hx hK (hHeld.below hb14) (fun hHeld2 => ?_)
       clear hK K
       refine oV 3 (fun K hK => ?_)
       refine cV Tryz.func10 (CI _ _ _ _ _ hO1) ?_
       rintro e u15 ⟨x2, rfl, hnp⟩
       have hB4 := Below.size hb14
       obtain ⟨hbn, s2, p2, v2, o2, rfl, hO2⟩ := hnp.own
       have hBN4 := hbn.size
       replace a6 := blk_below a6 hbn
       have hb16 := below_step hb14 hbn
       refine ⟨_, rfl, ?_⟩
       refine hx hK (hHeld.below hb16) (fun hHeld2 => ?_)
       clear hK K
       refine pV 4 ?_
       refine pV 5 ?_
       refine pV 6 ?_
       exact nV (norm_ (by simp only [putAll, Act.put, List.setIfInBounds_toArray, List.set_cons_zero, List.set_cons_succ]) (hCont (undef, .agg (cels E s2 p2 v2 o2), g) _ ⟨hb16, hgg, a6, _, _, _, _, _, _, rfl, hB4, hO2, hBN4⟩))
  case rest =>
  obtain ⟨g9, s9, p9, v9, o9, B9, N9, rfl, rfl, F, V6, V8, V9, hB9, h69, hBw9⟩ := hcut
  have hz6 := cz13 ⟨V6.out.a⟩
  have hz9 := cz13 ⟨V9.out.a⟩
  go_upto_region 13 with (first | ((with_reducible refine gC 11 ?_); refine cM (some 45) Tryz.func11 (eqPage_c V9.out.O.rd V6.out.O.rd hEn) ?_; rintro e w9 ⟨rfl, hb⟩; refine ⟨_, rfl, ?_⟩; replace F := aM (F.out.below hb); replace V6 := aM (V6.out.below hb); replace V8 := aM (V8.out.below hb); replace V9 := aM (V9.out.below hb); clear hb hz6 hz9))
  (try simp only [Act.put, List.setIfInBounds_toArray, List.set_cons_zero, List.set_cons_succ])
  refine sta (a := b2) (w0 := w) (lk := []) (B := w.heap.size) 5 [] [(⟨g8, 0, none⟩, s8), (⟨g8, 1, none⟩, .int .i64 Q.g.f1.f0), (⟨g8, 2, none⟩, .int .i64 Q.g.f1.f1), (⟨g8, 3, none⟩, .int .i64 Q.g.f1.f2), (⟨g8, 4, none⟩, .int .i64 Q.g.f1.f3), (⟨g8, 5, none⟩, p8), (⟨g8, 6, none⟩, .int .i64 Q.g.f3), (⟨g8, 7, none⟩, .int .i64 Q.g.f4.f0), (⟨g8, 8, none⟩, .int .i64 Q.g.f4.f1), (⟨g8, 9, none⟩, .int .i64 Q.g.f4.f2), (⟨g8, 10, none⟩, .int .i64 Q.g.f4.f3), (⟨g8, 11, none⟩, v8), (⟨g8, 12, none⟩, o8)] ⟨F.out.a2⟩ (by have := cz13 ⟨V8.out.a⟩; simp [this]) ⟨Fr.of (Nat.le_refl _) F.out.HB⟩ (fun w10 hb0 F0 hHeld => ?_)
  refine tV 0 ?_
  refine tV 1 ?_
  refine oV 2 (fun K hK => ?_)
  refine cV Tryz.func8 (CP _ (h.out.below (F.out.below hb0).HB)) ?_
  rintro e w11 ⟨x1, rfl, hnp⟩
  obtain ⟨hb, s1, p1, v1, o1, rfl, hO⟩ := hnp.own
  refine ⟨_, rfl, ?_⟩
  refine hx hK (hHeld.below hb) (fun hHeld2 => ?_)
  clear hK K hHeld hnp
  replace F := (F.out.below hb0).below hb
  replace V6 := (V6.out.below hb0).below hb
  replace V8 := (V8.out.below hb0).below hb
  replace V9 := (V9.out.below hb0).below hb
  refine oV 3 (fun K hK => ?_)
  refine cV Tryz.func11 (eqPage_c V8.O.rd hO.rd hQn) ?_
  rintro e w12 ⟨rfl, hb2⟩
  refine ⟨_, rfl, ?_⟩
  refine hx hK (hHeld2.below hb2) (fun hHeld3 => ?_)
  clear hK K hHeld2 hHeld3 hO hb hb0 F0
  replace F := aM (F.below hb2)
  replace V6 := aM (V6.below hb2)
  replace V8 := aM (V8.below hb2)
  replace V9 := aM (V9.below hb2)
  clear hb2
  refine pV 4 ?_
  refine done_ (by kernel_rfl) ?_
  have hz8 := cz13 ⟨V8.out.a⟩
  have kQ := lnPg_nn hQn
  have kE := lnPg_nn hEn
  have MQ := fun w' B N s p v o (h : OwnP w' B N Q s p v o) (hB : B ≤ w'.heap.size) => markPage_c h hB hQn
  have ME := fun w' B N s p v o (h : OwnP w' B N E s p v o) (hB : B ≤ w'.heap.size) => markPage_c h hB hEn
  have HE := fun w' s p v o (h : RdP w' (mkPg 1 E) s p v o) => heldPage_c h hEn
  generalize 1 + lnPg Q = KQ at MQ kQ
  generalize 1 + lnPg E = KE at ME HE kE
  go_upto_region 27 with (first | ((with_reducible refine gC 12 ?_); refine cM (some 59) Tryz.func12 (MQ _ _ _ _ _ _ _ V8.out.O V8.out.le) ?_; rintro e w13 ⟨rfl, hO, hbB, hk⟩; refine ⟨_, rfl, ?_⟩; replace F := aM (F.out.kept hk hbB hBw8.out); replace V6 := aM (V6.out.kept hk (.inl hB8.out)); replace V9 := aM (V9.out.kept hk (.inr hB9.out)); clear hz8 hO hbB hk V8; have hz6 := cz13 ⟨V6.out.a⟩; have hz9 := cz13 ⟨V9.out.a⟩) | (go_at_call 11; refine (eqPage_c V9.out.O.rd V6.out.O.rd hEn).mono ?_; rintro e w14 ⟨rfl, hb⟩; replace F := aM (F.out.below hb); replace V6 := aM (V6.out.below hb); replace V9 := aM (V9.out.below hb); clear hb hz6 hz9; have hz9 := cz13 ⟨V9.out.a⟩) | ((with_reducible refine gC 12 ?_); refine cM (some 75) Tryz.func12 (ME _ _ _ _ _ _ _ V9.out.O V9.out.le) ?_; rintro e w15 ⟨rfl, hO, hbB, hk⟩; refine ⟨_, rfl, ?_⟩; replace F := aM (F.out.kept hk hbB hBw9.out); replace V6 := aM (V6.out.kept hk (.inl h69.out)); replace V9 := Exists.intro (p := fun N => Aside0 (VP w15 g9 (mkPg 1 E) B9 N s9 p9 v9 o9)) _ (aM (VP.mk (E := mkPg 1 E) (keepB V9.out.a hk) hO (Nat.le_trans V9.out.le hk.1))); obtain ⟨N9', V9⟩ := V9; clear hz9 hO hbB hk; have hz9 := cz13 ⟨V9.out.a⟩) | ((with_reducible refine gC 13 ?_); refine cM (some 78) Tryz.func13 (HE _ _ _ _ _ V9.out.O.rd) ?_; rintro e w16 ⟨rfl, hb⟩; refine ⟨_, rfl, ?_⟩; replace F := aM (F.out.below hb); replace V6 := aM (V6.out.below hb); replace V9 := aM (V9.out.below hb); clear hb hz9))
  (try simp only [Act.put, List.setIfInBounds_toArray, List.set_cons_zero, List.set_cons_succ])
  go_cut [14, 15] (fun v14 v15 wc => ∃ (g : Nat) (s1 p1 v1 o1 : Value) (B N : Nat), v14 = .pointer (some ⟨g, 0, none⟩) ∧ v15 = .bool b ∧ Aside0 (LS w q s p v o nm n b2 b3 wc) ∧ Aside0 (VP wc g6 E B6 N6 s6 p6 v6 o6) ∧ Aside0 (VP wc g9 (mkPg 1 E) B9 N9' s9 p9 v9 o9) ∧ Aside0 (VP wc g E B N s1 p1 v1 o1))
  case first =>
    refine sta (a := b2) (w0 := w) (lk := []) (B := w.heap.size) 11 [9] [(⟨b3, 0, none⟩, .string nm), (⟨b3, 1, none⟩, .int .i64 n)] ⟨F.out.a2⟩ (by have := cz2 (aM F.out.a3); simp [this]) ⟨Fr.of (Nat.le_refl _) F.out.HB⟩ (fun w8 hb0 F0 hHeld => ?_)
    refine tV 0 ?_
    refine tV 2 ?_
    have F8 := F.out.below hb0
    have hR := h.out.below F8.HB
    refine join_ (σ := Value × Value × Nat) 2 (mB 11 511) (fun s_ => [(86, s_.1), (88, .agg #[.string nm, .int .i64 n]), (89, .tuple #[s_.2.1, .bool b]), (84, .tuple #[s_.2.1, .bool b]), (90, s_.2.1), (91, .bool b), (14, .pointer (some ⟨s_.2.2, 0, none⟩))]) (fun s_ w' => Below w8.heap.size w8 w' ∧ w8.heap.size ≤ s_.2.2 ∧ w'.heap[s_.2.2]? = some (.cells #[.slice none 0 0, .int .i64 0, .int .i64 0, .int .i64 0, .int .i64 0, .slice none 0 0, .int .i64 0, .int .i64 0, .int .i64 0, .int .i64 0, .int .i64 0, .slice none 0 0, .slice none 0 0] 46 (0, 0)) ∧ ∃ s1 p1 v1 o1 B N, s_.2.1 = .agg (cels E s1 p1 v1 o1) ∧ w8.heap.size ≤ B ∧ OwnP w' B N E s1 p1 v1 o1 ∧ B ≤ N) ?_ ?_
    · rintro ⟨x1, x2, g⟩ w9 ⟨hb, hg, a6, s1, p1, v1, o1, B, N, rfl, hBB, hO, hBN⟩
      dsimp only at hg a6
      obtain ⟨sA, sC, pA, pC, vA, vC, oA, oC, rfl, rfl, rfl, rfl⟩ := hO.sl
      simp only [cels]
      replace F8 := F8.below hb
      have n6 : g6 ≠ g := by have := blk_lt (V6.out.below hb0).a; omega
      have n9 : g9 ≠ g := by have := blk_lt (V9.out.below hb0).a; omega
      replace V6 := (V6.out.below hb0).below hb
      replace V9 := (V9.out.below hb0).below hb
      have gE6 : Aside0 (w.heap.size ≤ g) := ⟨by have := (F.out.below hb0).HB.size; omega⟩
      have HB := aM F8.HB
      refine norm_ (a' := ?_) ?_ ?_
      rotate_left
      · simp only [putAll, Act.put, List.setIfInBounds_toArray, List.set_cons_zero, List.set_cons_succ]
        rfl
      replace a6 := aM a6
      have hz6 := cz13 a6
      refine sV 9 ?_
      refine pV 10 ?_
      refine done_ (by kernel_rfl) ?_
      try go_wp2
      go_meet
      case rel => exact ⟨g, _, _, _, _, B, N, rfl, rfl, ⟨F8.on onL bS a6.out⟩, ⟨V6.on onL a6.out n6⟩, ⟨V9.on onL a6.out n9⟩, ⟨⟨kR a6, hO.on (Alien.one a6) onL, hBN⟩⟩⟩
    · intro hCont
      refine twV 1 8 (fun K hK => ?_) (fun K hK => ?_)
      ·refine cV Tryz.func8 (CP _ (hR.below (Below.refl w8.heap.size w8))) ?_
       rintro e u1 ⟨x1, rfl, hnp⟩
       obtain ⟨hbn, s1, p1, v1, o1, rfl, hO1⟩ := hnp.own
       replace hO1 := hO1.rd
       have hb2 := below_step (Below.refl w8.heap.size w8) hbn
       refine ⟨_, rfl, ?_⟩
       refine hx hK (hHeld.below hb2) (fun hHeld2 => ?_)
       clear hK K
       refine twV 3 8 (fun K hK => ?_) (fun K hK => ?_)
       ·refine cV Tryz.func9 toToken_c ?_
        rintro e u3 ⟨rfl, hbn⟩
        replace hO1 := hO1.below hbn
        have hb4 := below_step hb2 hbn
        refine ⟨_, rfl, ?_⟩
        refine hx hK (hHeld.below hb4) (fun hHeld2 => ?_)
        clear hK K
        refine twV 4 8 (fun K hK => ?_) (fun K hK => ?_)
        ·refine cV Tryz.func10 (CI _ _ _ _ _ hO1) ?_
         rintro e u5 ⟨x2, rfl, hnp⟩
         have hB4 := Below.size hb4
         obtain ⟨hbn, s2, p2, v2, o2, rfl, hO2⟩ := hnp.own
         have hBN4 := hbn.size
         have hb6 := below_step hb4 hbn
         refine ⟨_, rfl, ?_⟩
         refine hx hK (hHeld.below hb6) (fun hHeld2 => ?_)
         clear hK K
         refine pV 5 ?_
         refine pV 6 ?_
         refine pV 7 ?_
         refine oV 8 (fun K hK => ?_)
         refine bV #[.slice none 0 0, .int .i64 0, .int .i64 0, .int .i64 0, .int .i64 0, .slice none 0 0, .int .i64 0, .int .i64 0, .int .i64 0, .int .i64 0, .int .i64 0, .slice none 0 0, .slice none 0 0] 46 (fun g hg u7 a6 hbn => ?_)
         have hgg : w8.heap.size ≤ g := hg ▸ Below.size hb6
         have hb8 := below_step hb6 hbn
         refine hx hK (hHeld.below hb8) (fun hHeld2 => ?_)
         clear hK K
         replace hO2 := hO2.below hbn
         exact nV (norm_ (by simp only [putAll, Act.put, List.setIfInBounds_toArray, List.set_cons_zero, List.set_cons_succ]) (hCont (.agg (cels Q s1 p1 v1 o1), .agg (cels E s2 p2 v2 o2), g) _ ⟨hb8, hgg, a6, _, _, _, _, _, _, rfl, hB4, hO2, hBN4⟩))
        ·refine bV #[.slice none 0 0, .int .i64 0, .int .i64 0, .int .i64 0, .int .i64 0, .slice none 0 0, .int .i64 0, .int .i64 0, .int .i64 0, .int .i64 0, .int .i64 0, .slice none 0 0, .slice none 0 0] 46 (fun g hg u9 a6 hbn => ?_)
         have hgg : w8.heap.size ≤ g := hg ▸ Below.size hb4
         have hb10 := below_step hb4 hbn
         refine hx hK (hHeld.below hb10) (fun hHeld2 => ?_)
         clear hK K
         replace hO1 := hO1.below hbn
         refine oV 4 (fun K hK => ?_)
         refine cV Tryz.func10 (CI _ _ _ _ _ hO1) ?_
         rintro e u11 ⟨x2, rfl, hnp⟩
         have hB4 := Below.size hb10
         obtain ⟨hbn, s2, p2, v2, o2, rfl, hO2⟩ := hnp.own
         have hBN4 := hbn.size
         replace a6 := blk_below a6 hbn
         have hb12 := below_step hb10 hbn
         refine ⟨_, rfl, ?_⟩
         refine hx hK (hHeld.below hb12) (fun hHeld2 => ?_)
         clear hK K
         refine pV 5 ?_
         refine pV 6 ?_
         refine pV 7 ?_
         exact nV (norm_ (by simp only [putAll, Act.put, List.setIfInBounds_toArray, List.set_cons_zero, List.set_cons_succ]) (hCont (.agg (cels Q s1 p1 v1 o1), .agg (cels E s2 p2 v2 o2), g) _ ⟨hb12, hgg, a6, _, _, _, _, _, _, rfl, hB4, hO2, hBN4⟩))
       ·refine bV #[.slice none 0 0, .int .i64 0, .int .i64 0, .int .i64 0, .int .i64 0, .slice none 0 0, .int .i64 0, .int .i64 0, .int .i64 0, .int .i64 0, .int .i64 0, .slice none 0 0, .slice none 0 0] 46 (fun g hg u13 a6 hbn => ?_)
        have hgg : w8.heap.size ≤ g := hg ▸ Below.size hb2
        have hb14 := below_step hb2 hbn
        refine hx hK (hHeld.below hb14) (fun hHeld2 => ?_)
        clear hK K
        replace hO1 := hO1.below hbn
        refine oV 3 (fun K hK => ?_)
        refine cV Tryz.func9 toToken_c ?_
        rintro e u15 ⟨rfl, hbn⟩
        replace hO1 := hO1.below hbn
        replace a6 := blk_below a6 hbn
        have hb16 := below_step hb14 hbn
        refine ⟨_, rfl, ?_⟩
        refine hx hK (hHeld.below hb16) (fun hHeld2 => ?_)
        clear hK K
        refine oV 4 (fun K hK => ?_)
        refine cV Tryz.func10 (CI _ _ _ _ _ hO1) ?_
        rintro e u17 ⟨x2, rfl, hnp⟩
        have hB4 := Below.size hb16
        obtain ⟨hbn, s2, p2, v2, o2, rfl, hO2⟩ := hnp.own
        have hBN4 := hbn.size
        replace a6 := blk_below a6 hbn
        have hb18 := below_step hb16 hbn
        refine ⟨_, rfl, ?_⟩
        refine hx hK (hHeld.below hb18) (fun hHeld2 => ?_)
        clear hK K
        refine pV 5 ?_
        refine pV 6 ?_
        refine pV 7 ?_
        exact nV (norm_ (by simp only [putAll, Act.put, List.setIfInBounds_toArray, List.set_cons_zero, List.set_cons_succ]) (hCont (.agg (cels Q s1 p1 v1 o1), .agg (cels E s2 p2 v2 o2), g) _ ⟨hb18, hgg, a6, _, _, _, _, _, _, rfl, hB4, hO2, hBN4⟩))
      ·refine bV #[.slice none 0 0, .int .i64 0, .int .i64 0, .int .i64 0, .int .i64 0, .slice none 0 0, .int .i64 0, .int .i64 0, .int .i64 0, .int .i64 0, .int .i64 0, .slice none 0 0, .slice none 0 0] 46 (fun g hg u19 a6 hbn => ?_)
       have hgg : w8.heap.size ≤ g := hg ▸ Below.size (Below.refl w8.heap.size w8)
       have hb20 := below_step (Below.refl w8.heap.size w8) hbn
       refine hx hK (hHeld.below hb20) (fun hHeld2 => ?_)
       clear hK K
       refine oV 1 (fun K hK => ?_)
       refine cV Tryz.func8 (CP _ (hR.below hb20)) ?_
       rintro e u21 ⟨x1, rfl, hnp⟩
       obtain ⟨hbn, s1, p1, v1, o1, rfl, hO1⟩ := hnp.own
       replace hO1 := hO1.rd
       replace a6 := blk_below a6 hbn
       have hb22 := below_step hb20 hbn
       refine ⟨_, rfl, ?_⟩
       refine hx hK (hHeld.below hb22) (fun hHeld2 => ?_)
       clear hK K
       refine oV 3 (fun K hK => ?_)
       refine cV Tryz.func9 toToken_c ?_
       rintro e u23 ⟨rfl, hbn⟩
       replace hO1 := hO1.below hbn
       replace a6 := blk_below a6 hbn
       have hb24 := below_step hb22 hbn
       refine ⟨_, rfl, ?_⟩
       refine hx hK (hHeld.below hb24) (fun hHeld2 => ?_)
       clear hK K
       refine oV 4 (fun K hK => ?_)
       refine cV Tryz.func10 (CI _ _ _ _ _ hO1) ?_
       rintro e u25 ⟨x2, rfl, hnp⟩
       have hB4 := Below.size hb24
       obtain ⟨hbn, s2, p2, v2, o2, rfl, hO2⟩ := hnp.own
       have hBN4 := hbn.size
       replace a6 := blk_below a6 hbn
       have hb26 := below_step hb24 hbn
       refine ⟨_, rfl, ?_⟩
       refine hx hK (hHeld.below hb26) (fun hHeld2 => ?_)
       clear hK K
       refine pV 5 ?_
       refine pV 6 ?_
       refine pV 7 ?_
       exact nV (norm_ (by simp only [putAll, Act.put, List.setIfInBounds_toArray, List.set_cons_zero, List.set_cons_succ]) (hCont (.agg (cels Q s1 p1 v1 o1), .agg (cels E s2 p2 v2 o2), g) _ ⟨hb26, hgg, a6, _, _, _, _, _, _, rfl, hB4, hO2, hBN4⟩))
  case rest =>
  obtain ⟨g14, s14, p14, v14, o14, B14, N14, rfl, rfl, F, V6, V9, V14⟩ := hcut
  have hz6 := cz13 ⟨V6.out.a⟩
  have hz14 := cz13 ⟨V14.out.a⟩
  go_wp2_with (first | ((with_reducible refine gC 11 ?_); refine cM (some 94) Tryz.func11 (eqPage_c V14.out.O.rd V6.out.O.rd hEn) ?_; rintro e w17 ⟨rfl, hb⟩; refine ⟨_, rfl, ?_⟩; replace F := aM (F.out.below hb); replace V9 := aM (V9.out.below hb); clear hb hz6 hz14; have hz9 := cz13 ⟨V9.out.a⟩) | ((with_reducible refine gC 13 ?_); refine cM (some 103) Tryz.func13 (HE _ _ _ _ _ V9.out.O.rd) ?_; rintro e w18 ⟨rfl, hb⟩; refine ⟨_, rfl, ?_⟩; replace F := aM (F.out.below hb); clear hb hz9))
  go_ret
  exact ⟨rfl, F.out.HB⟩
end Go.Proofs.YtjkgponlahfnjaaGreat.Ex
namespace Go.Proofs.YtjkgponlahfnjaaGreat.Ex
open Go.RowKit Go.Proofs.YtjkgponlahfnjaaGreatW.PrintWords Go.Proofs.YtjkgponlahfnjaaGreatW.PrintLast Go.Proofs.YtjkgponlahfnjaaGreatW.PrintMore
open Go.Proofs.YtjkgponlahfnjaaGreat.QFnExactExecToken Go.Proofs.YtjkgponlahfnjaaGreat.Pure Go.Proofs.YtjkgponlahfnjaaGreat.Plain
theorem law_h (A0 : Option Addr) (c0 : Nat) (st : List Int) (p q r s : Int) (A5 : Option Addr) (c5 : Nat) (l : List S142) (g t u v x : Int) (A11 : Option Addr) (c11 : Nat) (G : List S29) (A12 : Option Addr) (c12 : Nat) (O : List S99) (nm : ByteArray) (n : Int) (w : World) (hC0 : Kd.C (Kd.int .i64) w A0 st.length st) (hl0 : st.length ≤ c0) (hC5 : Kd.C k142 w A5 l.length l) (hl5 : l.length ≤ c5) (hC11 : Kd.C k29 w A11 G.length G) (hl11 : G.length ≤ c11) (hC12 : Kd.C k99 w A12 O.length O) (hl12 : O.length ≤ c12)
    (h : ((st.length ≤ maxLen ∧ ∀ y ∈ st, ((Lit.int .i64 y).wf = true)) ∧ (((Lit.int .i64 p).wf = true) ∧ ((Lit.int .i64 q).wf = true) ∧ ((Lit.int .i64 r).wf = true) ∧ ((Lit.int .i64 s).wf = true)) ∧ (l.length ≤ maxLen ∧ ∀ y ∈ l, (((Lit.int .i64 y.f0).wf = true) ∧ ((Lit.int .i64 y.f1).wf = true))) ∧ ((Lit.int .i64 g).wf = true) ∧ (((Lit.int .i64 t).wf = true) ∧ ((Lit.int .i64 u).wf = true) ∧ ((Lit.int .i64 v).wf = true) ∧ ((Lit.int .i64 x).wf = true))) ∧ (G.length ≤ maxLen ∧ ∀ y ∈ G, ((y.f0.length ≤ maxLen ∧ ∀ yy ∈ y.f0, ((Lit.int .i64 yy).wf = true)) ∧ (((Lit.int .i64 y.f1.f0).wf = true) ∧ ((Lit.int .i64 y.f1.f1).wf = true) ∧ ((Lit.int .i64 y.f1.f2).wf = true) ∧ ((Lit.int .i64 y.f1.f3).wf = true)) ∧ (y.f2.length ≤ maxLen ∧ ∀ yy ∈ y.f2, (((Lit.int .i64 yy.f0).wf = true) ∧ ((Lit.int .i64 yy.f1).wf = true))) ∧ ((Lit.int .i64 y.f3).wf = true) ∧ (((Lit.int .i64 y.f4.f0).wf = true) ∧ ((Lit.int .i64 y.f4.f1).wf = true) ∧ ((Lit.int .i64 y.f4.f2).wf = true) ∧ ((Lit.int .i64 y.f4.f3).wf = true)))) ∧ (O.length ≤ maxLen ∧ ∀ y ∈ O, ((y.f0.length ≤ maxLen ∧ ∀ yy ∈ y.f0, (((Lit.int .i64 yy.f0).wf = true) ∧ ((Lit.int .i64 yy.f1).wf = true))) ∧ ((Lit.int .i64 y.f1).wf = true) ∧ (((Lit.int .i64 y.f2.f0).wf = true) ∧ ((Lit.int .i64 y.f2.f1).wf = true) ∧ ((Lit.int .i64 y.f2.f2).wf = true) ∧ ((Lit.int .i64 y.f2.f3).wf = true))))) (h2 : nm.size ≤ maxLen ∧ (Lit.int .i64 n).wf = true) :
    Calls Tryz.prog 3 #[.agg #[.slice A0 st.length c0, .int .i64 p, .int .i64 q, .int .i64 r, .int .i64 s, .slice A5 l.length c5, .int .i64 g, .int .i64 t, .int .i64 u, .int .i64 v, .int .i64 x, .slice A11 G.length c11, .slice A12 O.length c12], .agg #[.string nm, .int .i64 n]] w (fun e w' => e = .returned (.bool true) ∧ Below w.heap.size w w') :=
  law_c (q := ⟨⟨st, ⟨p, q, r, s⟩, l, g, ⟨t, u, v, x⟩⟩, G, O⟩) ⟨⟨_, _, rfl, hl0, hC0⟩, ⟨_, _, rfl, hl5, hC5⟩, ⟨_, _, rfl, hl11, hC11⟩, ⟨_, _, rfl, hl12, hC12⟩⟩ ⟨h.1.1.1, h.1.2.2.1.1, h.2.1.1, fun y hy => ⟨(h.2.1.2 y hy).1.1, (h.2.1.2 y hy).2.2.1.1⟩, h.2.2.1, fun y hy => (h.2.2.2 y hy).1.1⟩ h2.1
end Go.Proofs.YtjkgponlahfnjaaGreat.Ex
