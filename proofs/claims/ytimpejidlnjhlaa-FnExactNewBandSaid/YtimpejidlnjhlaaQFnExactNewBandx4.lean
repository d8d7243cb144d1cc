-- Made out of the translation by a program of this session (a changed copy of the print). Not trusted: Lean checks it.
import Derived.Test.YtimpejidlnjhlaaQFnExactNewBandx0
import Derived.Test.YtimpejidlnjhlaaQFnExactNewBandx3
namespace Go.Proofs.Ytimpejidlnjhlaa.QFnExactNewBand
open Go.RowKit Go.Proofs.YtimpejidlnjhlaaW.PrintWords Go.Proofs.YtimpejidlnjhlaaW.PrintLast Go.Proofs.YtimpejidlnjhlaaW.PrintMore
attribute [local go_sem] max2_int min2_int max_two min_two max_three min_three max_four min_four   -- for this text's walks alone
set_option linter.unusedVariables false
set_option linter.unusedSimpArgs false
set_option maxHeartbeats 8000000
set_option maxRecDepth 100000

/-! ### laws_markIntSS: function 65 -/
def laws_markIntSS.l0 : Nat → List (List Int) → Int → Int → Option (Int × (List (List Int)))
  | 0, _, _, _ => none
  | k + 1, x0, x1, x5 => if x5 < (x0.length : Int) then (if 0 ≤ x5 then ((laws_markIntS.f k (x0.getD x5.toNat []) x1).bind fun bt => (laws_markIntSS.l0 k (x0.set (x5 : Int).toNat bt.2) bt.1 (wrap64 (x5 + 1)))) else (none)) else (some (x1, x0))
def laws_markIntSS.f (k : Nat) (l0 : List (List Int)) (a1 : Int) : Option (Int × (List (List Int))) := laws_markIntSS.l0 k l0 a1 0
theorem laws_markIntSS.calls (k : Nat) (P0_ : Nat → Prop) (u9000_ : Value) (l0 : List (List Int)) (a1 : Int) (r1 : Int) (r2 : List (List Int)) (w0 w : World) (hB : Below w0.heap.size w0 w) (ho0 : Kd.S (Kd.slice 3 (Kd.int .i64)) 22 w w0.heap.size P0_ u9000_ l0) (h : laws_markIntSS.f k l0 a1 = some (r1, r2)) :
    Calls Try.prog 65 #[u9000_, .int .i64 a1] w fun e w' => e = .returned (.int .i64 r1) ∧ Kd.S (Kd.slice 3 (Kd.int .i64)) 22 w' w0.heap.size (fun k_ => (P0_ k_ ∨ w.heap.size ≤ k_)) u9000_ r2 ∧ Below w0.heap.size w0 w' ∧ Kept w w' (fun k_ => P0_ k_) := by
  have HO0 := Aside0.mk (show Kd.S (Kd.slice 3 (Kd.int .i64)) 22 w w0.heap.size (fun k_ => (P0_ k_ ∨ w.heap.size ≤ k_)) u9000_ l0 from Kd.S_mono ho0 (fun k_ hk => (.inl hk)))
  have HK := Aside0.mk (Kept.refl w (fun k_ => P0_ k_))
  have HB := Aside0.mk hB
  clear hB ho0
  have H' := Aside0.mk (show laws_markIntSS.l0 k l0 a1 0 = some (r1, r2) from h)
  clear h
  go_enter Try.func65, Try.ntmps65
  go_wp2
  go_loopg [1, 5] k (fun kq v1 v5 w' => ∃ (x0_1 : List (List Int)) (x1_1 : Int) (x5_1 : Int), v1 = .int .i64 x1_1 ∧ v5 = .int .i64 x5_1 ∧ Aside0 (laws_markIntSS.l0 kq x0_1 x1_1 x5_1 = some (r1, r2)) ∧ Aside0 (kq ≤ k) ∧ Aside0 (Kd.S (Kd.slice 3 (Kd.int .i64)) 22 w' w0.heap.size (fun k_ => (P0_ k_ ∨ w.heap.size ≤ k_)) u9000_ x0_1) ∧ Aside0 (Kept w w' (fun k_ => P0_ k_)) ∧ Aside0 (Below w0.heap.size w0 w'))
  case atStart => exact ⟨(l0), (a1), (0), rfl, rfl, H', ⟨Nat.le_refl _⟩, HO0, HK, HB⟩
  case round =>
    clear H' HO0
    obtain ⟨x0_1, x1_1, x5_1, rfl, rfl, HA, HK1, HO_0, HK, HB⟩ := hrel
    cases gk with
    | zero => exact absurd HA.out (by simp [laws_markIntSS.l0])
    | succ k1 =>
      have H := HA.out
      clear HA
      simp only [laws_markIntSS.l0] at H
      by_cases c3 : x5_1 < (x0_1.length : Int)
      · rw [if_pos c3] at H
        have c3b0 : decide (x5_1 < (x0_1.length : Int)) = true := decide_eq_true c3
        by_cases c4 : 0 ≤ x5_1
        · rw [if_pos c4] at H
          replace H := bN H
          obtain ⟨⟨t1, t2⟩, A5, H⟩ := H
          have H' := Aside0.mk H
          clear H
          obtain ⟨go5, co5, rfl, gb5, gl5, _⟩ := Kd.S_form HO_0.out (by omega)
          obtain ⟨oki, c, _, hM, hcc, _, hoki, hH⟩ := Kd.S_elem HO_0.out [] x5_1 c4 c3
          obtain ⟨vi, rfl, hR⟩ := hM
          obtain ⟨Ai, ci, rfl⟩ := Kd.R_slice hR
          have hx5 : wr.cell? ⟨go5, (x5_1 : Int).toNat, none⟩ = some (.slice Ai (x0_1.getD x5_1.toNat []).length ci) := by
            have h_ := hcc 0 _ rfl
            simpa only [show ((Kd.slice 3 (Kd.int .i64))).sz = 1 from rfl, Nat.mul_one, Nat.add_zero] using h_
          generalize hxi : x0_1.getD x5_1.toNat [] = xi at A5 hR hx5 hH
          clear hxi
          have HH := Aside0.mk hH
          have HR := Aside0.mk hR
          have HI := Aside0.mk hoki
          have HN := Aside0.mk (fun k_ (h_ : wr.heap.size ≤ k_) => (Or.inr (Nat.le_trans HK.out.1 h_) : P0_ k_ ∨ w.heap.size ≤ k_))
          clear hcc hoki hH hR HO_0 gb5 gl5
          have p5 := eq_true c4
          have q5 := eq_true c3
          clear c3 c4
          go_wp2_with (first | ((with_reducible refine gC 22 ?_); refine cL (some 17) Try.func22 #[.slice Ai xi.length ci, .int .i64 x1_1] ?_; (with_reducible refine (laws_markIntS.calls k1 oki _ xi x1_1 t1 t2 w0 _ HB.out HR.out A5.out).mono ?_); rintro e w8 ⟨rfl, hi, hb, hkp⟩; refine ⟨_, rfl, ?_⟩; have HO_0 := Aside0.mk (Kd.H_back (H_lent HH.out hkp HN.out) (Kd.M_row hi) (fun _ hk => hk)); replace HK := Aside0.mk (Kept.then_ HK.out hkp (fun k_ hk => (HI.out k_ hk).1)); replace HB := Aside0.mk hb; clear hi hb hkp hx5 HH HR HI HN))
          go_roundg k1
          case measure => have := HK1.out; omega
          case rel => exact ⟨x0_1.set (x5_1 : Int).toNat t2, t1, wrap64 (x5_1 + 1), rfl, (by first | rfl | (simp; done) | (simp [*]; done)), H', ⟨by have := HK1.out; omega⟩, HO_0, HK, HB⟩
        · rw [if_neg c4] at H
          exact absurd H (by simp)
      · rw [if_neg c3] at H
        have c3b0 : decide (x5_1 < (x0_1.length : Int)) = false := decide_eq_false c3
        clear c3
        simp only [Option.some.injEq, Prod.mk.injEq] at H
        obtain ⟨rfl, rfl⟩ := H
        obtain ⟨Ao9, co9, eo9⟩ := Kd.S_slice HO_0.out
        subst eo9
        go_wp2
        go_ret
        exact ⟨eS, HO_0.out, HB.out, HK.out⟩


/-! ### laws_markPointS: function 120 -/
def laws_markPointS.l0 : Nat → List (S166) → Int → Int → Option (Int × (List (S166)))
  | 0, _, _, _ => none
  | k + 1, x0, x1, x5 => if x5 < (x0.length : Int) then (if 0 ≤ x5 then ((some (x0.set (x5 : Int).toNat (⟨x1, (rd_T166 x0 x5).f1⟩ : S166) : List (S166))).bind fun y163 => (laws_markPointS.l0 k (y163.set (x5 : Int).toNat (⟨(rd_T166 y163 x5).f0, wrap64 (x1 + 1)⟩ : S166)) (wrap64 ((wrap64 (x1 + 1)) + 1)) (wrap64 (x5 + 1)))) else (none)) else (some (x1, x0))
def laws_markPointS.f (k : Nat) (l0 : List (S166)) (a1 : Int) : Option (Int × (List (S166))) := laws_markPointS.l0 k l0 a1 0
theorem laws_markPointS.calls (k : Nat) (P0_ : Nat → Prop) (u9000_ : Value) (l0 : List (S166)) (a1 : Int) (r1 : Int) (r2 : List (S166)) (w0 w : World) (hB : Below w0.heap.size w0 w) (ho0 : Kd.R k166 166 w w0.heap.size P0_ u9000_ l0) (h : laws_markPointS.f k l0 a1 = some (r1, r2)) :
    Calls Try.prog 120 #[u9000_, .int .i64 a1] w fun e w' => e = .returned (.int .i64 r1) ∧ Kd.R k166 166 w' w0.heap.size (fun k_ => (P0_ k_ ∨ w.heap.size ≤ k_)) u9000_ r2 ∧ Below w0.heap.size w0 w' ∧ Kept w w' (fun k_ => P0_ k_) := by
  have HO0 := Aside0.mk (show Kd.R k166 166 w w0.heap.size (fun k_ => (P0_ k_ ∨ w.heap.size ≤ k_)) u9000_ l0 from Kd.R_mono ho0 (fun k_ hk => (.inl hk)))
  have HK := Aside0.mk (Kept.refl w (fun k_ => P0_ k_))
  have HW0 := Aside0.mk hB.size
  have HB := Aside0.mk hB
  clear hB
  have H : (laws_markPointS.l0 k l0 a1 0) = some (r1, r2) := h
  clear h
  have H' := Aside0.mk H
  clear H
  go_enter Try.func120, Try.ntmps120
  go_wp2
  go_loopg [1, 5] k (fun kq v1 v5 w' => ∃ (x0_1 : List (S166)) (x1_1 : Int) (x5_1 : Int), v1 = .int .i64 x1_1 ∧ v5 = .int .i64 x5_1 ∧ Aside0 (laws_markPointS.l0 kq x0_1 x1_1 x5_1 = some (r1, r2)) ∧ Aside0 (kq ≤ k) ∧ Aside0 (Kd.R k166 166 w' w0.heap.size (fun k_ => (P0_ k_ ∨ w.heap.size ≤ k_)) u9000_ x0_1) ∧ Aside0 (Kept w w' (fun k_ => P0_ k_)) ∧ Aside0 (Below w0.heap.size w0 w'))
  case atStart => exact ⟨(l0), (a1), (0), (by first | rfl | (simp; done) | (simp [*]; done)), (by first | rfl | (simp; done) | (simp [*]; done)), H', ⟨Nat.le_refl _⟩, ⟨by (with_reducible repeat (first | apply Kd.R_alloc | apply Kd.R_drewN | apply Kd.R_drew)); exact HO0.out⟩, ⟨by repeat (first | (with_reducible first | exact HK.out | apply Kept.alloc | apply Kept.drewN | apply Kept.drew) | exact HK.out)⟩, ⟨bS⟩⟩
  case round =>
    clear H'
    try clear c1
    try clear p2
    obtain ⟨x0_1, x1_1, x5_1, rfl, rfl, HA, HK1, HO_0, HK, HB⟩ := hrel
    cases gk with
    | zero => exact absurd HA.out (by simp [laws_markPointS.l0])
    | succ k1 =>
      have H := HA.out
      clear HA
      simp only [laws_markPointS.l0] at H
      by_cases c3 : x5_1 < (x0_1.length : Int)
      · rw [if_pos c3] at H
        have c3b0 : decide (x5_1 < (x0_1.length : Int)) = true := decide_eq_true c3
        clear c3
        by_cases c4 : 0 ≤ x5_1
        · rw [if_pos c4] at H
          have c4b0 : decide (0 ≤ x5_1) = true := decide_eq_true c4
          clear c4
          obtain ⟨y163, hy163⟩ : ∃ y_ : List (S166), y_ = (x0_1.set (x5_1 : Int).toNat (⟨x1_1, (rd_T166 x0_1 x5_1).f1⟩ : S166)) := ⟨_, rfl⟩
          replace H : (laws_markPointS.l0 k1 (y163.set (x5_1 : Int).toNat (⟨(rd_T166 y163 x5_1).f0, wrap64 (x1_1 + 1)⟩ : S166)) (wrap64 ((wrap64 (x1_1 + 1)) + 1)) (wrap64 (x5_1 + 1))) = some (r1, r2) := by first | (rw [hy163]; with_reducible exact H) | (have H2_ := (Option.bind_some _ _).symm.trans H; rw [hy163]; with_reducible exact H2_) | (have H2_ := (Option.bind_some _ _).symm.trans H; with_reducible exact H2_) | with_reducible exact H | (rw [hy163]; exact H) | exact H
          have Ny163 := Aside0.mk hy163
          clear hy163
          obtain ⟨y164, hy164⟩ : ∃ y_ : List (S166), y_ = (y163.set (x5_1 : Int).toNat (⟨(rd_T166 y163 x5_1).f0, wrap64 (x1_1 + 1)⟩ : S166)) := ⟨_, rfl⟩
          replace H : (laws_markPointS.l0 k1 y164 (wrap64 ((wrap64 (x1_1 + 1)) + 1)) (wrap64 (x5_1 + 1))) = some (r1, r2) := by first | (rw [hy164]; with_reducible exact H) | (have H2_ := (Option.bind_some _ _).symm.trans H; rw [hy164]; with_reducible exact H2_) | (have H2_ := (Option.bind_some _ _).symm.trans H; with_reducible exact H2_) | with_reducible exact H | (rw [hy164]; exact H) | exact H
          have Ny164 := Aside0.mk hy164
          clear hy164
          have H' := Aside0.mk H
          clear H
          obtain ⟨Ao7, co7, eo7⟩ := Kd.R_slice HO_0.out
          subst eo7
          have p5 : 0 ≤ (x5_1 : Int) := of_decide_eq_true (by first | (with_reducible assumption) | assumption)
          have q5 : (x5_1 : Int) < ((x0_1.length : Int) : Int) := of_decide_eq_true (by first | (with_reducible assumption) | assumption)
          obtain ⟨go5, co5, eo5, gb5, gl5, cl5, HG5⟩ := Kd.R_form HO_0.out (by omega)
          (first | cases eo5 | (injection eo5 with ea_ en_ ec_; (first | subst ea_ | (injection ea_ with ea_; subst ea_)); subst ec_; clear en_))
          have GB5 := Aside0.mk gb5
          have GG5 := Aside0.mk HG5
          clear gb5 gl5 HG5
          have HMgo5 := Aside0.mk (show (P0_ go5 ∨ w.heap.size ≤ go5) from (HO_0.out.1 _ rfl))
          obtain ⟨ce5, hcl5, hM5, hcc5, hfr5⟩ := Kd.R_elem HO_0.out z166 (x5_1 : Int) p5 q5
          obtain rfl := k166_openM hM5
          have hx5_0 : wr.cell? ⟨go5, (x5_1 : Int).toNat * 2, none⟩ = some (.int .i64 ((rd_T166 x0_1 x5_1).f0)) := hcc5 0 _ rfl
          have hx5_1 : wr.cell? ⟨go5, (x5_1 : Int).toNat * 2 + 1, none⟩ = some (.int .i64 ((rd_T166 x0_1 x5_1).f1)) := hcc5 1 _ rfl
          have hf5_0 : wr.frozen? ⟨go5, (x5_1 : Int).toNat * 2, none⟩ = false := hfr5 0
          have hf5_1 : wr.frozen? ⟨go5, (x5_1 : Int).toNat * 2 + 1, none⟩ = false := hfr5 1
          (try clear hM5); clear hcl5 hcc5 hfr5
          replace p5 := eq_true p5
          replace q5 := eq_true q5
          have HX8 := Aside0.mk (show Kd.R k166 166 wr w0.heap.size (fun k_ => (P0_ k_ ∨ w.heap.size ≤ k_)) (.slice (some ⟨go5, 0, none⟩) x0_1.length co7) x0_1 from (rS HO_0))
          obtain ⟨ce8, hcl8, hM8, hcc8, hfr8⟩ := Kd.R_elem HX8.out z166 (x5_1 : Int) (of_decide_eq_true (by first | (with_reducible assumption) | assumption)) (by have h_ : (x5_1 : Int) < ((x0_1.length : Int) : Int) := of_decide_eq_true (by first | (with_reducible assumption) | assumption); first | exact h_ | (have e_ := (Kd.R_reads' HO_0.out).1; omega) | simpa using h_)
          obtain rfl := k166_openM hM8
          have HP8 := Kd.R_seg HX8.out (x5_1 : Int) (of_decide_eq_true (by first | (with_reducible assumption) | assumption)) (by have h_ : (x5_1 : Int) < ((x0_1.length : Int) : Int) := of_decide_eq_true (by first | (with_reducible assumption) | assumption); first | exact h_ | (have e_ := (Kd.R_reads' HO_0.out).1; omega) | simpa using h_) (seg := [.int .i64 x1_1]) (j := 0) hcl8 hcc8 (show 1 ≤ 2 from by decide) (x' := (⟨x1_1, (rd_T166 x0_1 x5_1).f1⟩ : S166)) (k166_mkM _ _ _ (⟨x1_1, (rd_T166 x0_1 x5_1).f1⟩ : S166) ) (fun _ hk => hk)
          have hx8_0 := hcc8 0 _ rfl
          (try simp only [show (k166).sz = 2 from rfl, Nat.mul_one, Nat.add_zero] at hx8_0)
          have hf8_0 := hfr8 0
          (try simp only [show (k166).sz = 2 from rfl, Nat.mul_one, Nat.add_zero] at hf8_0)
          (try clear hM8); clear hcl8 hcc8 hfr8
          go_wp2_with (first | ((with_reducible refine gate_store (t := 3) (p := 16) rfl ?_); refine store_event (t := 3) (p := 16) (v := ?vo_w9) (w1 := (wr.setCell ⟨go5, (x5_1 : Int).toNat * 2, none⟩ (.int .i64 x1_1))) ?hg ?ho ?hn ?hr ?_; (case ho => rfl); (case hg => rfl); (case hn => rfl); (case hr => first | (go_simp; done) | (go_simp; rfl)); intro w9 hw; have hg : wr.grownBy w9 (some go5) := (by rw [hw]; exact HP8.2); have hp_ : Kd.R k166 166 w9 w0.heap.size (fun k_ => (P0_ k_ ∨ w.heap.size ≤ k_)) (.slice (some ⟨go5, 0, none⟩) x0_1.length co7) y163 := (by rw [hw, Ny163.out]; exact HP8.1); clear HP8; replace HB := Aside0.mk ((by rw [hw]; exact below_set (HB.out) GB5.out : Below w0.heap.size w0 w9)); replace HK := Aside0.mk (Kept.of_grown (S := (fun k_ => P0_ k_)) hg (by repeat (first | (with_reducible first | exact HK.out | apply Kept.alloc | apply Kept.drewN | apply Kept.drew) | exact HK.out)) (fun k_ e_ => (HO_0.out.1 k_ e_))); replace HO_0 := Aside0.mk (hp_); clear hg hw hp_; have p6 : 0 ≤ (x5_1 : Int) := of_decide_eq_true (by first | (with_reducible assumption) | assumption); have q6 : (x5_1 : Int) < ((x0_1.length : Int) : Int) := of_decide_eq_true (by first | (with_reducible assumption) | assumption); obtain ⟨ce6, hcl6, hM6, hcc6, hfr6⟩ := Kd.R_elem HO_0.out z166 (x5_1 : Int) p6 q6; obtain rfl := k166_openM hM6; have hx6_0 : w9.cell? ⟨go5, (x5_1 : Int).toNat * 2, none⟩ = some (.int .i64 ((rd_T166 y163 x5_1).f0)) := hcc6 0 _ rfl; have hx6_1 : w9.cell? ⟨go5, (x5_1 : Int).toNat * 2 + 1, none⟩ = some (.int .i64 ((rd_T166 y163 x5_1).f1)) := hcc6 1 _ rfl; have hf6_0 : w9.frozen? ⟨go5, (x5_1 : Int).toNat * 2, none⟩ = false := hfr6 0; have hf6_1 : w9.frozen? ⟨go5, (x5_1 : Int).toNat * 2 + 1, none⟩ = false := hfr6 1; (try clear hM6); clear hcl6 hcc6 hfr6; replace p6 := eq_true p6; replace q6 := eq_true q6; have HX10 := Aside0.mk (show Kd.R k166 166 w9 w0.heap.size (fun k_ => (P0_ k_ ∨ w.heap.size ≤ k_)) (.slice (some ⟨go5, 0, none⟩) x0_1.length co7) y163 from (rS HO_0)); obtain ⟨ce10, hcl10, hM10, hcc10, hfr10⟩ := Kd.R_elem HX10.out z166 (x5_1 : Int) (of_decide_eq_true (by first | (with_reducible assumption) | assumption)) (by have h_ : (x5_1 : Int) < ((x0_1.length : Int) : Int) := of_decide_eq_true (by first | (with_reducible assumption) | assumption); first | exact h_ | (have e_ := (Kd.R_reads' HO_0.out).1; omega) | simpa using h_); obtain rfl := k166_openM hM10; have HP10 := Kd.R_seg HX10.out (x5_1 : Int) (of_decide_eq_true (by first | (with_reducible assumption) | assumption)) (by have h_ : (x5_1 : Int) < ((x0_1.length : Int) : Int) := of_decide_eq_true (by first | (with_reducible assumption) | assumption); first | exact h_ | (have e_ := (Kd.R_reads' HO_0.out).1; omega) | simpa using h_) (seg := [.int .i64 (wrap64 (x1_1 + 1))]) (j := 1) hcl10 hcc10 (show 2 ≤ 2 from by decide) (x' := (⟨(rd_T166 y163 x5_1).f0, wrap64 (x1_1 + 1)⟩ : S166)) (k166_mkM _ _ _ (⟨(rd_T166 y163 x5_1).f0, wrap64 (x1_1 + 1)⟩ : S166) ) (fun _ hk => hk); have hx10_1 := hcc10 1 _ rfl; (try simp only [show (k166).sz = 2 from rfl, Nat.mul_one, Nat.add_zero] at hx10_1); have hf10_1 := hfr10 1; (try simp only [show (k166).sz = 2 from rfl, Nat.mul_one, Nat.add_zero] at hf10_1); (try clear hM10); clear hcl10 hcc10 hfr10) | ((with_reducible refine gate_store (t := 3) (p := 23) rfl ?_); refine store_event (t := 3) (p := 23) (v := ?vo_w11) (w1 := (w9.setCell ⟨go5, (x5_1 : Int).toNat * 2 + 1, none⟩ (.int .i64 (wrap64 (x1_1 + 1))))) ?hg ?ho ?hn ?hr ?_; (case ho => rfl); (case hg => rfl); (case hn => rfl); (case hr => first | (go_simp; done) | (go_simp; rfl)); intro w11 hw; have hg : w9.grownBy w11 (some go5) := (by rw [hw]; exact HP10.2); have hp_ : Kd.R k166 166 w11 w0.heap.size (fun k_ => (P0_ k_ ∨ w.heap.size ≤ k_)) (.slice (some ⟨go5, 0, none⟩) x0_1.length co7) y164 := (by rw [hw, Ny164.out]; exact HP10.1); clear HP10; replace HB := Aside0.mk ((by rw [hw]; exact below_set (HB.out) GB5.out : Below w0.heap.size w0 w11)); replace HK := Aside0.mk (Kept.of_grown (S := (fun k_ => P0_ k_)) hg (by repeat (first | (with_reducible first | exact HK.out | apply Kept.alloc | apply Kept.drewN | apply Kept.drew) | exact HK.out)) (fun k_ e_ => (HO_0.out.1 k_ e_))); replace HO_0 := Aside0.mk (hp_); clear hg hw hp_))
          go_roundg k1
          case measure => have := HK1.out; omega
          case rel => exact ⟨(y164), (wrap64 ((wrap64 (x1_1 + 1)) + 1)), (wrap64 (x5_1 + 1)), (by first | rfl | (simp; done) | (simp [*]; done)), (by first | rfl | (simp; done) | (simp [*]; done)), H', ⟨by have := HK1.out; omega⟩, ⟨by (with_reducible repeat (first | apply Kd.R_alloc | apply Kd.R_drewN | apply Kd.R_drew)); exact HO_0.out⟩, ⟨by repeat (first | (with_reducible first | exact HK.out | apply Kept.alloc | apply Kept.drewN | apply Kept.drew) | exact HK.out)⟩, ⟨bS⟩⟩
        · rw [if_neg c4] at H
          exact absurd H (by simp)
      · rw [if_neg c3] at H
        have c3b0 : decide (x5_1 < (x0_1.length : Int)) = false := decide_eq_false c3
        clear c3
        simp only [Option.some.injEq, Prod.mk.injEq] at H
        obtain ⟨rfl, rfl⟩ := H
        obtain ⟨Ao12, co12, eo12⟩ := Kd.R_slice HO_0.out
        subst eo12
        go_wp2
        go_ret
        exact ⟨eS, by (with_reducible repeat (first | apply Kd.R_alloc | apply Kd.R_drewN | apply Kd.R_drew)); exact HO_0.out, bS, by repeat (first | (with_reducible first | exact HK.out | apply Kept.alloc | apply Kept.drewN | apply Kept.drew) | exact HK.out)⟩

/-! ### laws_markObjectS: function 68 -/
def laws_markObjectS.l0 : Nat → List S41 → Int → Int → Option (Int × (List S41))
  | 0, _, _, _ => none
  | k + 1, x0, x1, x5 => if x5 < (x0.length : Int) then (if 0 ≤ x5 then ((laws_markPointS.f k (x0.getD x5.toNat z41).f0 (x1)).bind fun bt => (laws_markObjectS.l0 k (x0.set (x5 : Int).toNat (⟨bt.2, bt.1, (⟨wrap64 (bt.1 + 1), wrap64 ((wrap64 (bt.1 + 1)) + 1), wrap64 ((wrap64 ((wrap64 (bt.1 + 1)) + 1)) + 1), wrap64 ((wrap64 ((wrap64 ((wrap64 (bt.1 + 1)) + 1)) + 1)) + 1)⟩ : S39)⟩ : S41)) (wrap64 ((wrap64 ((wrap64 ((wrap64 ((wrap64 (bt.1 + 1)) + 1)) + 1)) + 1)) + 1)) (wrap64 (x5 + 1)))) else (none)) else (some (x1, x0))
def laws_markObjectS.f (k : Nat) (l0 : List S41) (a1 : Int) : Option (Int × (List S41)) := laws_markObjectS.l0 k l0 a1 0
theorem laws_markObjectS.calls (k : Nat) (P0_ : Nat → Prop) (u9000_ : Value) (l0 : List S41) (a1 : Int) (r1 : Int) (r2 : List S41) (w0 w : World) (hB : Below w0.heap.size w0 w) (ho0 : Kd.S k41 41 w w0.heap.size P0_ u9000_ l0) (h : laws_markObjectS.f k l0 a1 = some (r1, r2)) :
    Calls Try.prog 68 #[u9000_, .int .i64 a1] w fun e w' => e = .returned (.int .i64 r1) ∧ Kd.S k41 41 w' w0.heap.size (fun k_ => (P0_ k_ ∨ w.heap.size ≤ k_)) u9000_ r2 ∧ Below w0.heap.size w0 w' ∧ Kept w w' (fun k_ => P0_ k_) := by
  have HO0 := Aside0.mk (show Kd.S k41 41 w w0.heap.size (fun k_ => (P0_ k_ ∨ w.heap.size ≤ k_)) u9000_ l0 from Kd.S_mono ho0 (fun k_ hk => (.inl hk)))
  have HK := Aside0.mk (Kept.refl w (fun k_ => P0_ k_))
  have HB := Aside0.mk hB
  clear hB ho0
  have H' := Aside0.mk (show laws_markObjectS.l0 k l0 a1 0 = some (r1, r2) from h)
  clear h
  have hu41 := Try.underlying41
  have hu39 := Try.underlying39
  go_enter Try.func68, Try.ntmps68
  go_wp2
  go_loopg [1, 5] k (fun kq v1 v5 w' => ∃ (x0_1 : List S41) (x1_1 : Int) (x5_1 : Int), v1 = .int .i64 x1_1 ∧ v5 = .int .i64 x5_1 ∧ Aside0 (laws_markObjectS.l0 kq x0_1 x1_1 x5_1 = some (r1, r2)) ∧ Aside0 (kq ≤ k) ∧ Aside0 (Kd.S k41 41 w' w0.heap.size (fun k_ => (P0_ k_ ∨ w.heap.size ≤ k_)) u9000_ x0_1) ∧ Aside0 (Kept w w' (fun k_ => P0_ k_)) ∧ Aside0 (Below w0.heap.size w0 w'))
  case atStart => exact ⟨(l0), (a1), (0), rfl, rfl, H', ⟨Nat.le_refl _⟩, HO0, HK, HB⟩
  case round =>
    clear H' HO0
    obtain ⟨x0_1, x1_1, x5_1, rfl, rfl, HA, HK1, HO_0, HK, HB⟩ := hrel
    cases gk with
    | zero => exact absurd HA.out (by simp [laws_markObjectS.l0])
    | succ k1 =>
      have H := HA.out
      clear HA
      simp only [laws_markObjectS.l0] at H
      by_cases c3 : x5_1 < (x0_1.length : Int)
      · rw [if_pos c3] at H
        have c3b0 : decide (x5_1 < (x0_1.length : Int)) = true := decide_eq_true c3
        by_cases c4 : 0 ≤ x5_1
        · rw [if_pos c4] at H
          replace H := bN H
          obtain ⟨⟨t1, t2⟩, A5, H⟩ := H
          have H' := Aside0.mk H
          clear H
          have HG := Aside0.mk (show ∀ k_, u9000_.ownBlock = some k_ → (P0_ k_ ∨ w.heap.size ≤ k_) from (Kd.S_R HO_0.out).1)
          obtain ⟨go5, co5, rfl, gb5, gl5, _⟩ := Kd.S_form HO_0.out (by omega)
          replace HG := Aside0.mk (HG.out go5 rfl)
          obtain ⟨oki, c, _, hM, _, _, hoki, hH⟩ := Kd.S_elem HO_0.out z41 x5_1 c4 c3
          obtain ⟨v0, rfl, hR⟩ := k41_openM hM
          obtain ⟨Ai, ci, rfl⟩ := Kd.R_slice hR
          clear hM
          generalize hxi : (x0_1.getD x5_1.toNat z41).f0 = xi at A5 hR hH
          clear hxi
          generalize (x0_1.getD x5_1.toNat z41).f1 = y1 at hH
          generalize (x0_1.getD x5_1.toNat z41).f2.f0 = y2 at hH
          generalize (x0_1.getD x5_1.toNat z41).f2.f1 = y3 at hH
          generalize (x0_1.getD x5_1.toNat z41).f2.f2 = y4 at hH
          generalize (x0_1.getD x5_1.toNat z41).f2.f3 = y5 at hH
          have HH : Aside0 (Kd.H k41 41 wr w0.heap.size (fun k_ => (P0_ k_ ∨ w.heap.size ≤ k_)) (.slice (some ⟨go5, 0, none⟩) x0_1.length co5) x0_1 x5_1 oki [.slice Ai xi.length ci, .int .i64 y1, .int .i64 y2, .int .i64 y3, .int .i64 y4, .int .i64 y5]) := ⟨hH⟩
          have HR := Aside0.mk hR
          have HI := Aside0.mk hoki
          have HF := Aside0.mk (fun k_ (h_ : oki k_) => (hoki k_ h_).2)
          have GB := Aside0.mk gb5
          have P5 := Aside0.mk c4
          have Q5 := Aside0.mk c3
          clear hoki hH hR HO_0 gb5 gl5
          have p5 := eq_true c4
          have q5 := eq_true c3
          clear c3 c4
          have hs : wr.cell? ⟨go5, (x5_1 : Int).toNat * 6, none⟩ = some (.slice Ai xi.length ci) := (H_cells HH.out P5.out Q5.out).1 0 _ rfl; have hf : wr.frozen? ⟨go5, (x5_1 : Int).toNat * 6, none⟩ = false := (H_cells HH.out P5.out Q5.out).2 0
          go_wp2_with (first | ((with_reducible refine gC 120 ?_); refine cL (some 18) Try.func120 #[.slice Ai xi.length ci, .int .i64 (x1_1)] ?_; (with_reducible refine (laws_markPointS.calls k1 oki _ xi (x1_1) t1 t2 w0 _ HB.out HR.out A5.out).mono ?_); rintro e wz0 ⟨rfl, hi, hb, hkp⟩; refine ⟨_, rfl, ?_⟩; (try clear hs hf); have HN := fun k_ (h_ : wr.heap.size ≤ k_) => (Or.inr (Nat.le_trans HK.out.1 h_) : P0_ k_ ∨ w.heap.size ≤ k_); have GL := H_lt HH.out P5.out Q5.out; replace HF : Aside0 (∀ k_, (oki k_ ∨ wr.heap.size ≤ k_) → k_ ≠ go5) := ⟨fun k_ h_ => h_.elim (HF.out k_) (fun h2 e_ => by omega)⟩; replace HH : Aside0 (Kd.H k41 41 wz0 w0.heap.size (fun k_ => (P0_ k_ ∨ w.heap.size ≤ k_)) (.slice (some ⟨go5, 0, none⟩) x0_1.length co5) x0_1 x5_1 (fun k_ => oki k_ ∨ wr.heap.size ≤ k_) [.slice Ai xi.length ci, .int .i64 y1, .int .i64 y2, .int .i64 y3, .int .i64 y4, .int .i64 y5]) := ⟨H_lent HH.out hkp HN⟩; replace HR := Aside0.mk hi; replace HK := Aside0.mk (Kept.then_ HK.out hkp (fun k_ hk => (HI.out k_ hk).1)); replace HB := Aside0.mk hb; clear hi hb hkp HN GL; have hs : wz0.cell? ⟨go5, (x5_1 : Int).toNat * 6 + 1, none⟩ = some (.int .i64 y1) := (H_cells HH.out P5.out Q5.out).1 1 _ rfl; have hf : wz0.frozen? ⟨go5, (x5_1 : Int).toNat * 6 + 1, none⟩ = false := (H_cells HH.out P5.out Q5.out).2 1) | ((with_reducible refine gate_store (t := 3) (p := 23) rfl ?_); refine store_event (t := 3) (p := 23) (v := ?vo_wz1) (w1 := (wz0.setCell ⟨go5, (x5_1 : Int).toNat * 6 + 1, none⟩ (.int .i64 (t1)))) ?hg ?ho ?hn ?hr ?_; (case ho => rfl); (case hg => rfl); (case hn => rfl); (case hr => first | (go_simp; done) | (go_simp; rfl)); intro wz1 hw; have h_ := H_put HH.out P5.out Q5.out 1 (by decide) rfl (.int .i64 (t1)) rfl; replace HH : Aside0 (Kd.H k41 41 wz1 w0.heap.size (fun k_ => (P0_ k_ ∨ w.heap.size ≤ k_)) (.slice (some ⟨go5, 0, none⟩) x0_1.length co5) x0_1 x5_1 (fun k_ => oki k_ ∨ wr.heap.size ≤ k_) [.slice Ai xi.length ci, .int .i64 (t1), .int .i64 y2, .int .i64 y3, .int .i64 y4, .int .i64 y5]) := ⟨by rw [hw]; exact h_.1⟩; replace HR : Aside0 (Kd.R k166 166 wz1 w0.heap.size (fun k_ => oki k_ ∨ wr.heap.size ≤ k_) (.slice Ai xi.length ci) t2) := ⟨by rw [hw]; exact Kd.R_far HR.out HF.out _⟩; replace HK : Aside0 (Kept w wz1 (fun k_ => P0_ k_)) := ⟨by rw [hw]; exact Kept.setCell HK.out HG.out _⟩; replace HB : Aside0 (Below w0.heap.size w0 wz1) := ⟨by rw [hw]; exact below_set HB.out GB.out⟩; clear h_ hw hs hf; have hs : wz1.cell? ⟨go5, (x5_1 : Int).toNat * 6 + 2, none⟩ = some (.int .i64 y2) := (H_cells HH.out P5.out Q5.out).1 2 _ rfl; have hf : wz1.frozen? ⟨go5, (x5_1 : Int).toNat * 6 + 2, none⟩ = false := (H_cells HH.out P5.out Q5.out).2 2) | ((with_reducible refine gate_store (t := 3) (p := 31) rfl ?_); refine store_event (t := 3) (p := 31) (v := ?vo_wz2) (w1 := (wz1.setCell ⟨go5, (x5_1 : Int).toNat * 6 + 2, none⟩ (.int .i64 (wrap64 (t1 + 1))))) ?hg ?ho ?hn ?hr ?_; (case ho => rfl); (case hg => rfl); (case hn => rfl); (case hr => first | (go_simp; done) | (go_simp; rfl)); intro wz2 hw; have h_ := H_put HH.out P5.out Q5.out 2 (by decide) rfl (.int .i64 (wrap64 (t1 + 1))) rfl; replace HH : Aside0 (Kd.H k41 41 wz2 w0.heap.size (fun k_ => (P0_ k_ ∨ w.heap.size ≤ k_)) (.slice (some ⟨go5, 0, none⟩) x0_1.length co5) x0_1 x5_1 (fun k_ => oki k_ ∨ wr.heap.size ≤ k_) [.slice Ai xi.length ci, .int .i64 (t1), .int .i64 (wrap64 (t1 + 1)), .int .i64 y3, .int .i64 y4, .int .i64 y5]) := ⟨by rw [hw]; exact h_.1⟩; replace HR : Aside0 (Kd.R k166 166 wz2 w0.heap.size (fun k_ => oki k_ ∨ wr.heap.size ≤ k_) (.slice Ai xi.length ci) t2) := ⟨by rw [hw]; exact Kd.R_far HR.out HF.out _⟩; replace HK : Aside0 (Kept w wz2 (fun k_ => P0_ k_)) := ⟨by rw [hw]; exact Kept.setCell HK.out HG.out _⟩; replace HB : Aside0 (Below w0.heap.size w0 wz2) := ⟨by rw [hw]; exact below_set HB.out GB.out⟩; clear h_ hw hs hf; have hs : wz2.cell? ⟨go5, (x5_1 : Int).toNat * 6 + 3, none⟩ = some (.int .i64 y3) := (H_cells HH.out P5.out Q5.out).1 3 _ rfl; have hf : wz2.frozen? ⟨go5, (x5_1 : Int).toNat * 6 + 3, none⟩ = false := (H_cells HH.out P5.out Q5.out).2 3) | ((with_reducible refine gate_store (t := 3) (p := 39) rfl ?_); refine store_event (t := 3) (p := 39) (v := ?vo_wz3) (w1 := (wz2.setCell ⟨go5, (x5_1 : Int).toNat * 6 + 3, none⟩ (.int .i64 (wrap64 ((wrap64 (t1 + 1)) + 1))))) ?hg ?ho ?hn ?hr ?_; (case ho => rfl); (case hg => rfl); (case hn => rfl); (case hr => first | (go_simp; done) | (go_simp; rfl)); intro wz3 hw; have h_ := H_put HH.out P5.out Q5.out 3 (by decide) rfl (.int .i64 (wrap64 ((wrap64 (t1 + 1)) + 1))) rfl; replace HH : Aside0 (Kd.H k41 41 wz3 w0.heap.size (fun k_ => (P0_ k_ ∨ w.heap.size ≤ k_)) (.slice (some ⟨go5, 0, none⟩) x0_1.length co5) x0_1 x5_1 (fun k_ => oki k_ ∨ wr.heap.size ≤ k_) [.slice Ai xi.length ci, .int .i64 (t1), .int .i64 (wrap64 (t1 + 1)), .int .i64 (wrap64 ((wrap64 (t1 + 1)) + 1)), .int .i64 y4, .int .i64 y5]) := ⟨by rw [hw]; exact h_.1⟩; replace HR : Aside0 (Kd.R k166 166 wz3 w0.heap.size (fun k_ => oki k_ ∨ wr.heap.size ≤ k_) (.slice Ai xi.length ci) t2) := ⟨by rw [hw]; exact Kd.R_far HR.out HF.out _⟩; replace HK : Aside0 (Kept w wz3 (fun k_ => P0_ k_)) := ⟨by rw [hw]; exact Kept.setCell HK.out HG.out _⟩; replace HB : Aside0 (Below w0.heap.size w0 wz3) := ⟨by rw [hw]; exact below_set HB.out GB.out⟩; clear h_ hw hs hf; have hs : wz3.cell? ⟨go5, (x5_1 : Int).toNat * 6 + 4, none⟩ = some (.int .i64 y4) := (H_cells HH.out P5.out Q5.out).1 4 _ rfl; have hf : wz3.frozen? ⟨go5, (x5_1 : Int).toNat * 6 + 4, none⟩ = false := (H_cells HH.out P5.out Q5.out).2 4) | ((with_reducible refine gate_store (t := 3) (p := 47) rfl ?_); refine store_event (t := 3) (p := 47) (v := ?vo_wz4) (w1 := (wz3.setCell ⟨go5, (x5_1 : Int).toNat * 6 + 4, none⟩ (.int .i64 (wrap64 ((wrap64 ((wrap64 (t1 + 1)) + 1)) + 1))))) ?hg ?ho ?hn ?hr ?_; (case ho => rfl); (case hg => rfl); (case hn => rfl); (case hr => first | (go_simp; done) | (go_simp; rfl)); intro wz4 hw; have h_ := H_put HH.out P5.out Q5.out 4 (by decide) rfl (.int .i64 (wrap64 ((wrap64 ((wrap64 (t1 + 1)) + 1)) + 1))) rfl; replace HH : Aside0 (Kd.H k41 41 wz4 w0.heap.size (fun k_ => (P0_ k_ ∨ w.heap.size ≤ k_)) (.slice (some ⟨go5, 0, none⟩) x0_1.length co5) x0_1 x5_1 (fun k_ => oki k_ ∨ wr.heap.size ≤ k_) [.slice Ai xi.length ci, .int .i64 (t1), .int .i64 (wrap64 (t1 + 1)), .int .i64 (wrap64 ((wrap64 (t1 + 1)) + 1)), .int .i64 (wrap64 ((wrap64 ((wrap64 (t1 + 1)) + 1)) + 1)), .int .i64 y5]) := ⟨by rw [hw]; exact h_.1⟩; replace HR : Aside0 (Kd.R k166 166 wz4 w0.heap.size (fun k_ => oki k_ ∨ wr.heap.size ≤ k_) (.slice Ai xi.length ci) t2) := ⟨by rw [hw]; exact Kd.R_far HR.out HF.out _⟩; replace HK : Aside0 (Kept w wz4 (fun k_ => P0_ k_)) := ⟨by rw [hw]; exact Kept.setCell HK.out HG.out _⟩; replace HB : Aside0 (Below w0.heap.size w0 wz4) := ⟨by rw [hw]; exact below_set HB.out GB.out⟩; clear h_ hw hs hf; have hs : wz4.cell? ⟨go5, (x5_1 : Int).toNat * 6 + 5, none⟩ = some (.int .i64 y5) := (H_cells HH.out P5.out Q5.out).1 5 _ rfl; have hf : wz4.frozen? ⟨go5, (x5_1 : Int).toNat * 6 + 5, none⟩ = false := (H_cells HH.out P5.out Q5.out).2 5) | ((with_reducible refine gate_store (t := 3) (p := 55) rfl ?_); refine store_event (t := 3) (p := 55) (v := ?vo_wz5) (w1 := (wz4.setCell ⟨go5, (x5_1 : Int).toNat * 6 + 5, none⟩ (.int .i64 (wrap64 ((wrap64 ((wrap64 ((wrap64 (t1 + 1)) + 1)) + 1)) + 1))))) ?hg ?ho ?hn ?hr ?_; (case ho => rfl); (case hg => rfl); (case hn => rfl); (case hr => first | (go_simp; done) | (go_simp; rfl)); intro wz5 hw; have h_ := H_put HH.out P5.out Q5.out 5 (by decide) rfl (.int .i64 (wrap64 ((wrap64 ((wrap64 ((wrap64 (t1 + 1)) + 1)) + 1)) + 1))) rfl; replace HH : Aside0 (Kd.H k41 41 wz5 w0.heap.size (fun k_ => (P0_ k_ ∨ w.heap.size ≤ k_)) (.slice (some ⟨go5, 0, none⟩) x0_1.length co5) x0_1 x5_1 (fun k_ => oki k_ ∨ wr.heap.size ≤ k_) [.slice Ai xi.length ci, .int .i64 (t1), .int .i64 (wrap64 (t1 + 1)), .int .i64 (wrap64 ((wrap64 (t1 + 1)) + 1)), .int .i64 (wrap64 ((wrap64 ((wrap64 (t1 + 1)) + 1)) + 1)), .int .i64 (wrap64 ((wrap64 ((wrap64 ((wrap64 (t1 + 1)) + 1)) + 1)) + 1))]) := ⟨by rw [hw]; exact h_.1⟩; replace HR : Aside0 (Kd.R k166 166 wz5 w0.heap.size (fun k_ => oki k_ ∨ wr.heap.size ≤ k_) (.slice Ai xi.length ci) t2) := ⟨by rw [hw]; exact Kd.R_far HR.out HF.out _⟩; replace HK : Aside0 (Kept w wz5 (fun k_ => P0_ k_)) := ⟨by rw [hw]; exact Kept.setCell HK.out HG.out _⟩; replace HB : Aside0 (Below w0.heap.size w0 wz5) := ⟨by rw [hw]; exact below_set HB.out GB.out⟩; clear h_ hw hs hf))
          go_roundg k1
          case measure => have := HK1.out; omega
          case rel => exact ⟨x0_1.set (x5_1 : Int).toNat (⟨t2, t1, (⟨wrap64 (t1 + 1), wrap64 ((wrap64 (t1 + 1)) + 1), wrap64 ((wrap64 ((wrap64 (t1 + 1)) + 1)) + 1), wrap64 ((wrap64 ((wrap64 ((wrap64 (t1 + 1)) + 1)) + 1)) + 1)⟩ : S39)⟩ : S41), (wrap64 ((wrap64 ((wrap64 ((wrap64 ((wrap64 (t1 + 1)) + 1)) + 1)) + 1)) + 1)), wrap64 (x5_1 + 1), (by first | rfl | (simp; done) | (simp [*]; done)), (by first | rfl | (simp; done) | (simp [*]; done)), H', ⟨by have := HK1.out; omega⟩, ⟨Kd.H_back HH.out (k41_mkM _ _ _ ((⟨t2, t1, (⟨wrap64 (t1 + 1), wrap64 ((wrap64 (t1 + 1)) + 1), wrap64 ((wrap64 ((wrap64 (t1 + 1)) + 1)) + 1), wrap64 ((wrap64 ((wrap64 ((wrap64 (t1 + 1)) + 1)) + 1)) + 1)⟩ : S39)⟩ : S41) : S41) HR.out) (fun _ hk => hk)⟩, HK, HB⟩
        · rw [if_neg c4] at H
          exact absurd H (by simp)
      · rw [if_neg c3] at H
        have c3b0 : decide (x5_1 < (x0_1.length : Int)) = false := decide_eq_false c3
        clear c3
        simp only [Option.some.injEq, Prod.mk.injEq] at H
        obtain ⟨rfl, rfl⟩ := H
        obtain ⟨Ao9, co9, eo9⟩ := Kd.S_slice HO_0.out
        subst eo9
        go_wp2
        go_ret
        exact ⟨eS, HO_0.out, HB.out, HK.out⟩


/-! ### laws_markBand: function 50 -/
def laws_markBand.f (k : Nat) (a0_0 : Int) (a0_1 : Int) (l0_2 : List (List Int)) (l0_3 : List (S41)) (a1 : Int) : Option (Int × (List (List Int)) × (List (S41))) := (laws_markIntSS.f k l0_2 a1).bind fun bt1 => ((laws_markObjectS.f k l0_3 bt1.1).bind fun bt2 => (some (bt2.1, bt1.2, bt2.2)))
theorem laws_markBand.calls (k : Nat) (a0_0 : Int) (a0_1 : Int) (P2_ : Nat → Prop) (u2_ : Value) (l0_2 : List (List Int)) (P3_ : Nat → Prop) (u3_ : Value) (l0_3 : List (S41)) (a1 : Int) (r1 : Int) (r2 : List (List Int)) (r3 : List (S41)) (w0 w : World) (hB : Below w0.heap.size w0 w) (ho2 : Kd.S (Kd.slice 3 (Kd.int .i64)) 22 w w0.heap.size P2_ u2_ l0_2) (ho3 : Kd.S k41 41 w w0.heap.size P3_ u3_ l0_3) (h : laws_markBand.f k a0_0 a0_1 l0_2 l0_3 a1 = some (r1, r2, r3)) :
    Calls Try.prog 50 #[.agg #[.int .i64 a0_0, .int .i64 a0_1, u2_, u3_], .int .i64 a1] w fun e w' => e = .returned (.int .i64 r1) ∧ Kd.S (Kd.slice 3 (Kd.int .i64)) 22 w' w0.heap.size (fun k_ => (P2_ k_ ∨ w.heap.size ≤ k_)) u2_ r2 ∧ Kd.S k41 41 w' w0.heap.size (fun k_ => (P3_ k_ ∨ w.heap.size ≤ k_)) u3_ r3 ∧ Below w0.heap.size w0 w' ∧ Kept w w' (fun k_ => (P2_ k_ ∨ P3_ k_)) := by
  have hu_ := Try.underlying67
  have HO2 := Aside0.mk (show Kd.S (Kd.slice 3 (Kd.int .i64)) 22 w w0.heap.size (fun k_ => P2_ k_ ∧ k_ < w.heap.size ∧ ∃ q_, q_ ∈ 22 :: ((Kd.slice 3 (Kd.int .i64))).E ∧ ∃ c_, w.heap[k_]? = some (.cells c_ q_ (0, 0))) u2_ l0_2 from Kd.S_mono (Kd.S_bound ho2) (fun k_ hk => ⟨hk.1, hk.2.2.1, hk.2.2.2⟩))
  have HO3 := Aside0.mk (show Kd.S k41 41 w w0.heap.size (fun k_ => P3_ k_ ∧ k_ < w.heap.size ∧ ∃ q_, q_ ∈ 41 :: (k41).E ∧ ∃ c_, w.heap[k_]? = some (.cells c_ q_ (0, 0))) u3_ l0_3 from Kd.S_mono (Kd.S_bound ho3) (fun k_ hk => ⟨hk.1, hk.2.2.1, hk.2.2.2⟩))
  have HK := Aside0.mk (Kept.refl w (fun k_ => P2_ k_ ∨ P3_ k_))
  have HB := Aside0.mk hB
  clear hB ho2 ho3
  have H : ((laws_markIntSS.f k l0_2 a1).bind fun bt1 => ((laws_markObjectS.f k l0_3 bt1.1).bind fun bt2 => (some (bt2.1, bt1.2, bt2.2)))) = some (r1, r2, r3) := h
  clear h
  replace H := bN H
  obtain ⟨⟨t1, t2⟩, FA1, H⟩ := H
  replace H := bN H
  obtain ⟨⟨t3, t4⟩, FA2, H⟩ := H
  simp only [Option.some.injEq, Prod.mk.injEq] at H
  obtain ⟨rfl, rfl, rfl⟩ := H
  obtain ⟨A2, c2, e2⟩ := Kd.S_slice HO2.out
  subst e2
  obtain ⟨A3, c3, e3⟩ := Kd.S_slice HO3.out
  subst e3
  go_enter Try.func50, Try.ntmps50
  go_wp2_with (first | ((with_reducible refine gD 2 ?_); refine bxE #[.int .i64 a0_0, .int .i64 a0_1, .slice A2 l0_2.length c2, .slice A3 l0_3.length c3] 67 ?_; intro gb hg w5 BK hb; have GW := Aside0.mk ((by rw [hg]; exact (show Kept w _ (fun k_ => P2_ k_ ∨ P3_ k_) from by repeat (first | (with_reducible first | exact HK.out | apply Kept.alloc | apply Kept.drewN | apply Kept.drew) | exact HK.out)).1 : w.heap.size ≤ gb)); replace HO2 := Aside0.mk (Kd.S_below (by (with_reducible repeat (first | apply Kd.S_alloc | apply Kd.S_drewN | apply Kd.S_drew)); exact HO2.out) hb); replace HO3 := Aside0.mk (Kd.S_below (by (with_reducible repeat (first | apply Kd.S_alloc | apply Kd.S_drewN | apply Kd.S_drew)); exact HO3.out) hb); replace HK := Aside0.mk (Kept.below (S := (fun k_ => P2_ k_ ∨ P3_ k_)) (by repeat (first | (with_reducible first | exact HK.out | apply Kept.alloc | apply Kept.drewN | apply Kept.drew) | exact HK.out)) hb); replace HB := hB hb; clear hb hg; have hz_a := cz4 BK) | ((with_reducible refine gC 65 ?_); refine cL (some 8) Try.func65 #[.slice A2 l0_2.length c2, .int .i64 (a1)] ?_; (with_reducible refine (laws_markIntSS.calls k (fun k_ => P2_ k_ ∧ k_ < w.heap.size ∧ ∃ q_, q_ ∈ 22 :: ((Kd.slice 3 (Kd.int .i64))).E ∧ ∃ c_, w.heap[k_]? = some (.cells c_ q_ (0, 0))) (.slice A2 l0_2.length c2) l0_2 (a1) t1 t2 w0 _ ?side1 ?side2 FA1.out).mono ?_); (case side1 => repeat (first | (with_reducible first | exact HB.out | apply below_alloc | apply pw_below_drewN | apply below_drew1) | exact HB.out)); (case side2 => exact (by (with_reducible repeat (first | apply Kd.S_alloc | apply Kd.S_drewN | apply Kd.S_drew)); exact HO2.out)); rintro e w8 ⟨rfl, hy, hb, hkp⟩; refine ⟨_, rfl, ?_⟩; have HN := Aside0.mk (show Kept w _ (fun k_ => P2_ k_ ∨ P3_ k_) from by repeat (first | (with_reducible first | exact HK.out | apply Kept.alloc | apply Kept.drewN | apply Kept.drew) | exact HK.out)).1; replace BK := Aside0.mk (blk_kept (g := gb) kS hkp (fun hs_ => Nat.not_lt.2 GW.out hs_.2.1)); replace HO3 := Aside0.mk (Kd.S_mono (ok' := (fun k_ => P3_ k_ ∧ k_ < w.heap.size ∧ ∃ q_, q_ ∈ 41 :: (k41).E ∧ ∃ c_, w.heap[k_]? = some (.cells c_ q_ (0, 0)))) (Kd.S_keptB (by (with_reducible repeat (first | apply Kd.S_alloc | apply Kd.S_drewN | apply Kd.S_drew)); exact HO3.out) hkp (fun k_ h1_ h2_ => typed_two h1_.2.2 h2_.2.2 (by decide))) (fun _ h_ => h_.1)); replace HK := Aside0.mk (Kept.then_ (S := (fun k_ => P2_ k_ ∨ P3_ k_)) (by repeat (first | (with_reducible first | exact HK.out | apply Kept.alloc | apply Kept.drewN | apply Kept.drew) | exact HK.out)) hkp (fun k_ hs_ => Or.inl (Or.inl hs_.1))); replace HO2 := Aside0.mk (Kd.S_mono (ok' := fun k_ => (fun k_ => P2_ k_ ∧ k_ < w.heap.size ∧ ∃ q_, q_ ∈ 22 :: ((Kd.slice 3 (Kd.int .i64))).E ∧ ∃ c_, w.heap[k_]? = some (.cells c_ q_ (0, 0))) k_ ∨ w.heap.size ≤ k_) hy (fun k_ h_ => Or.elim h_ Or.inl (fun h2_ => Or.inr (Nat.le_trans HN.out h2_)))); replace HB := Aside0.mk hb; clear hb hkp hy HN; have hz_w8 := cz4 BK) | ((with_reducible refine gC 68 ?_); refine cL (some 12) Try.func68 #[.slice A3 l0_3.length c3, .int .i64 (t1)] ?_; (with_reducible refine (laws_markObjectS.calls k (fun k_ => P3_ k_ ∧ k_ < w.heap.size ∧ ∃ q_, q_ ∈ 41 :: (k41).E ∧ ∃ c_, w.heap[k_]? = some (.cells c_ q_ (0, 0))) (.slice A3 l0_3.length c3) l0_3 (t1) t3 t4 w0 _ ?side1 ?side2 FA2.out).mono ?_); (case side1 => repeat (first | (with_reducible first | exact HB.out | apply below_alloc | apply pw_below_drewN | apply below_drew1) | exact HB.out)); (case side2 => exact (by (with_reducible repeat (first | apply Kd.S_alloc | apply Kd.S_drewN | apply Kd.S_drew)); exact HO3.out)); rintro e w9 ⟨rfl, hy, hb, hkp⟩; refine ⟨_, rfl, ?_⟩; have HN := Aside0.mk (show Kept w _ (fun k_ => P2_ k_ ∨ P3_ k_) from by repeat (first | (with_reducible first | exact HK.out | apply Kept.alloc | apply Kept.drewN | apply Kept.drew) | exact HK.out)).1; replace BK := Aside0.mk (blk_kept (g := gb) kS hkp (fun hs_ => Nat.not_lt.2 GW.out hs_.2.1)); replace HO2 := Aside0.mk (Kd.S_mono (ok' := fun k_ => (fun k_ => P2_ k_ ∧ k_ < w.heap.size ∧ ∃ q_, q_ ∈ 22 :: ((Kd.slice 3 (Kd.int .i64))).E ∧ ∃ c_, w.heap[k_]? = some (.cells c_ q_ (0, 0))) k_ ∨ w.heap.size ≤ k_) (Kd.S_keptB (by (with_reducible repeat (first | apply Kd.S_alloc | apply Kd.S_drewN | apply Kd.S_drew)); exact HO2.out) hkp (fun k_ h1_ h2_ => Or.elim h1_ (fun h1_ => typed_two h1_.2.2 h2_.2.2 (by decide)) (fun h1_ => Nat.not_lt.2 h1_ h2_.2.1))) (fun _ h_ => h_.1)); replace HK := Aside0.mk (Kept.then_ (S := (fun k_ => P2_ k_ ∨ P3_ k_)) (by repeat (first | (with_reducible first | exact HK.out | apply Kept.alloc | apply Kept.drewN | apply Kept.drew) | exact HK.out)) hkp (fun k_ hs_ => Or.inl (Or.inr hs_.1))); replace HO3 := Aside0.mk (Kd.S_mono (ok' := fun k_ => (fun k_ => P3_ k_ ∧ k_ < w.heap.size ∧ ∃ q_, q_ ∈ 41 :: (k41).E ∧ ∃ c_, w.heap[k_]? = some (.cells c_ q_ (0, 0))) k_ ∨ w.heap.size ≤ k_) hy (fun k_ h_ => Or.elim h_ Or.inl (fun h2_ => Or.inr (Nat.le_trans HN.out h2_)))); replace HB := Aside0.mk hb; clear hb hkp hy HN; have hz_w9 := cz4 BK))
  go_ret
  exact ⟨eS, Kd.S_mono (ok := fun k_ => (fun k_ => P2_ k_ ∧ k_ < w.heap.size ∧ ∃ q_, q_ ∈ 22 :: ((Kd.slice 3 (Kd.int .i64))).E ∧ ∃ c_, w.heap[k_]? = some (.cells c_ q_ (0, 0))) k_ ∨ w.heap.size ≤ k_) (by (with_reducible repeat (first | apply Kd.S_alloc | apply Kd.S_drewN | apply Kd.S_drew)); exact HO2.out) (fun k_ h_ => Or.elim h_ (fun h_ => Or.inl h_.1) Or.inr), Kd.S_mono (ok := fun k_ => (fun k_ => P3_ k_ ∧ k_ < w.heap.size ∧ ∃ q_, q_ ∈ 41 :: (k41).E ∧ ∃ c_, w.heap[k_]? = some (.cells c_ q_ (0, 0))) k_ ∨ w.heap.size ≤ k_) (by (with_reducible repeat (first | apply Kd.S_alloc | apply Kd.S_drewN | apply Kd.S_drew)); exact HO3.out) (fun k_ h_ => Or.elim h_ (fun h_ => Or.inl h_.1) Or.inr), bS, by repeat (first | (with_reducible first | exact HK.out | apply Kept.alloc | apply Kept.drewN | apply Kept.drew) | exact HK.out)⟩


/-! ### laws_heldIntS: function 23 -/
def laws_heldIntS.l0 : Nat → List Int → Int → Int → Option (Int)
  | 0, _, _, _ => none
  | k + 1, x0, x1, x5 => if x5 < (x0.length : Int) then (if 0 ≤ x5 then (if (rd x0 x5) = x1 then (laws_heldIntS.l0 k x0 (wrap64 (x1 + 1)) (wrap64 (x5 + 1))) else (some (-1))) else (none)) else (some x1)
def laws_heldIntS.f (k : Nat) (l0 : List Int) (a1 : Int) : Option (Int) := laws_heldIntS.l0 k l0 a1 0
theorem laws_heldIntS.calls (k : Nat) (A0 : Option Addr) (c0 : Nat) (l0 : List Int) (a1 : Int) (r : Int) (w : World) (hr0 : Kd.C (Kd.int .i64) w A0 l0.length l0) (hc0 : l0.length ≤ c0) (h : laws_heldIntS.f k l0 a1 = some r) :
    Calls Try.prog 23 #[.slice A0 l0.length c0, .int .i64 a1] w fun e w' => e = .returned (.int .i64 r) ∧ Drawn0 w w' := by
  have HR0 := Aside0.mk hr0
  have HC0 := Aside0.mk hc0
  clear hr0 hc0
  have H : (laws_heldIntS.l0 k l0 a1 0) = some r := h
  clear h
  have H' := Aside0.mk H
  clear H
  go_enter Try.func23, Try.ntmps23
  go_wp2
  go_loopg [1, 5] k (fun kq v1 v5 w' => ∃ (x1_1 : Int) (x5_1 : Int), v1 = .int .i64 x1_1 ∧ v5 = .int .i64 x5_1 ∧ Aside0 (laws_heldIntS.l0 kq l0 x1_1 x5_1 = some r) ∧ Aside0 (kq ≤ k) ∧ Drawn0 w w')
  case atStart => exact ⟨(a1), (0), (by first | rfl | (simp; done) | (simp [*]; done)), (by first | rfl | (simp; done) | (simp [*]; done)), H', ⟨Nat.le_refl _⟩, by repeat (first | exact Drawn0.refl _ | apply Drawn0.step)⟩
  case round =>
    clear H'
    try clear c2
    try clear p2
    obtain ⟨x1_1, x5_1, rfl, rfl, HA, HK1, ⟨m1, rfl⟩⟩ := hrel
    cases gk with
    | zero => exact absurd HA.out (by simp [laws_heldIntS.l0])
    | succ k1 =>
      have H := HA.out
      clear HA
      simp only [laws_heldIntS.l0] at H
      by_cases c3 : x5_1 < (l0.length : Int)
      · rw [if_pos c3] at H
        have c3b0 : decide (x5_1 < (l0.length : Int)) = true := decide_eq_true c3
        clear c3
        by_cases c4 : 0 ≤ x5_1
        · rw [if_pos c4] at H
          have c4b0 : decide (0 ≤ x5_1) = true := decide_eq_true c4
          clear c4
          by_cases c5 : (rd l0 x5_1) = x1_1
          · rw [if_pos c5] at H
            have c5b0 : ((rd l0 x5_1) == x1_1) = true := beq_iff_eq.mpr c5
            have c5b1 : ((rd l0 x5_1) != x1_1) = false := bne_eq_false_iff_eq.mpr c5
            clear c5
            have H' := Aside0.mk H
            clear H
            have p165 : 0 ≤ (x5_1 : Int) := of_decide_eq_true (by first | (with_reducible assumption) | assumption)
            have q165 : x5_1 < (l0.length : Int) := of_decide_eq_true (by first | (with_reducible assumption) | assumption)
            obtain ⟨ad165, e165, hx165_0⟩ := Kd.at_int HR0.out x5_1 p165 q165
            cases e165
            replace p165 := eq_true p165
            replace q165 := eq_true q165
            go_wp2
            go_roundg k1
            case measure => have := HK1.out; omega
            case rel => exact ⟨(wrap64 (x1_1 + 1)), (wrap64 (x5_1 + 1)), (by first | rfl | (simp; done) | (simp [*]; done)), (by first | rfl | (simp; done) | (simp [*]; done)), H', ⟨by have := HK1.out; omega⟩, by repeat (first | exact Drawn0.refl _ | apply Drawn0.step)⟩
          · rw [if_neg c5] at H
            have c5b0 : ((rd l0 x5_1) == x1_1) = false := beq_eq_false_iff_ne.mpr c5
            have c5b1 : ((rd l0 x5_1) != x1_1) = true := bne_iff_ne.mpr c5
            obtain rfl := Option.some.inj H
            have p165 : 0 ≤ (x5_1 : Int) := of_decide_eq_true (by first | (with_reducible assumption) | assumption)
            have q165 : x5_1 < (l0.length : Int) := of_decide_eq_true (by first | (with_reducible assumption) | assumption)
            obtain ⟨ad165, e165, hx165_0⟩ := Kd.at_int HR0.out x5_1 p165 q165
            cases e165
            replace p165 := eq_true p165
            replace q165 := eq_true q165
            go_wp2
            go_ret
            exact ⟨by first | rfl | (simp; done) | (simp [*]; done), by repeat (first | exact Drawn0.refl _ | apply Drawn0.step)⟩
        · rw [if_neg c4] at H
          exact absurd H (by simp)
      · rw [if_neg c3] at H
        have c3b0 : decide (x5_1 < (l0.length : Int)) = false := decide_eq_false c3
        clear c3
        obtain rfl := Option.some.inj H
        go_wp2
        go_ret
        exact ⟨by first | rfl | (simp; done) | (simp [*]; done), by repeat (first | exact Drawn0.refl _ | apply Drawn0.step)⟩

/-! ### laws_heldIntSS: function 66 -/
def laws_heldIntSS.l0 : Nat → List (List Int) → Int → Int → Option (Int)
  | 0, _, _, _ => none
  | k + 1, x0, x1, x5 => if x5 < (x0.length : Int) then (if 0 ≤ x5 then ((laws_heldIntS.f k (rd_L1 x0 x5) x1).bind fun t167 => (if t167 < 0 then (some (-1)) else (laws_heldIntSS.l0 k x0 t167 (wrap64 (x5 + 1))))) else (none)) else (some x1)
def laws_heldIntSS.f (k : Nat) (l0 : List (List Int)) (a1 : Int) : Option (Int) := laws_heldIntSS.l0 k l0 a1 0
theorem laws_heldIntSS.calls (k : Nat) (A0 : Option Addr) (c0 : Nat) (l0 : List (List Int)) (a1 : Int) (r : Int) (w : World) (hr0 : Kd.C (Kd.slice 3 (Kd.int .i64)) w A0 l0.length l0) (hc0 : l0.length ≤ c0) (h : laws_heldIntSS.f k l0 a1 = some r) :
    Calls Try.prog 66 #[.slice A0 l0.length c0, .int .i64 a1] w fun e w' => e = .returned (.int .i64 r) ∧ Drawn0 w w' := by
  have HR0 := Aside0.mk hr0
  have HC0 := Aside0.mk hc0
  clear hr0 hc0
  have H : (laws_heldIntSS.l0 k l0 a1 0) = some r := h
  clear h
  have H' := Aside0.mk H
  clear H
  go_enter Try.func66, Try.ntmps66
  go_wp2
  go_loopg [1, 5] k (fun kq v1 v5 w' => ∃ (x1_1 : Int) (x5_1 : Int), v1 = .int .i64 x1_1 ∧ v5 = .int .i64 x5_1 ∧ Aside0 (laws_heldIntSS.l0 kq l0 x1_1 x5_1 = some r) ∧ Aside0 (kq ≤ k) ∧ Drawn0 w w')
  case atStart => exact ⟨(a1), (0), (by first | rfl | (simp; done) | (simp [*]; done)), (by first | rfl | (simp; done) | (simp [*]; done)), H', ⟨Nat.le_refl _⟩, by repeat (first | exact Drawn0.refl _ | apply Drawn0.step)⟩
  case round =>
    clear H'
    try clear p2
    obtain ⟨x1_1, x5_1, rfl, rfl, HA, HK1, ⟨m1, rfl⟩⟩ := hrel
    cases gk with
    | zero => exact absurd HA.out (by simp [laws_heldIntSS.l0])
    | succ k1 =>
      have H := HA.out
      clear HA
      simp only [laws_heldIntSS.l0] at H
      by_cases c3 : x5_1 < (l0.length : Int)
      · rw [if_pos c3] at H
        have c3b0 : decide (x5_1 < (l0.length : Int)) = true := decide_eq_true c3
        clear c3
        by_cases c4 : 0 ≤ x5_1
        · rw [if_pos c4] at H
          have c4b0 : decide (0 ≤ x5_1) = true := decide_eq_true c4
          clear c4
          replace H := bN H
          obtain ⟨t167, A5, H⟩ := H
          by_cases c6 : t167 < 0
          · rw [if_pos c6] at H
            have c6b0 : decide (t167 < 0) = true := decide_eq_true c6
            clear c6
            obtain rfl := Option.some.inj H
            have p166 : 0 ≤ (x5_1 : Int) := of_decide_eq_true (by first | (with_reducible assumption) | assumption)
            have q166 : x5_1 < (l0.length : Int) := of_decide_eq_true (by first | (with_reducible assumption) | assumption)
            obtain ⟨ad166, A166_0, c166_0, e166, hx166_0, hl166_0, hi166_0⟩ := at_L1 HR0.out x5_1 p166 q166
            cases e166
            have HR166_0 := Aside0.mk hi166_0
            have HC166_0 := Aside0.mk hl166_0
            clear hi166_0 hl166_0
            replace p166 := eq_true p166
            replace q166 := eq_true q166
            go_wp2_with (first | ((with_reducible refine gC 23 ?_); refine cL (some 17) Try.func23 #[.slice A166_0 (rd_L1 l0 x5_1).length c166_0, .int .i64 x1_1] ?_; (with_reducible refine (laws_heldIntS.calls k1 _ _ (rd_L1 l0 x5_1) x1_1 t167 _ ?side1 ?side2 A5.out).mono ?_); (case side1 => repeat (first | exact HR166_0.out | (with_reducible refine Kd.C_alloc ?_ _) | (with_reducible refine Kd.C_drewN ?_ _) | (with_reducible refine Kd.C_drew ?_))); (case side2 => exact HC166_0.out); rintro e w' ⟨rfl, ⟨nd, rfl⟩⟩; refine ⟨_, rfl, ?_⟩))
            go_ret
            exact ⟨by first | rfl | (simp; done) | (simp [*]; done), by repeat (first | exact Drawn0.refl _ | apply Drawn0.step)⟩
          · rw [if_neg c6] at H
            have c6b0 : decide (t167 < 0) = false := decide_eq_false c6
            clear c6
            have H' := Aside0.mk H
            clear H
            have p166 : 0 ≤ (x5_1 : Int) := of_decide_eq_true (by first | (with_reducible assumption) | assumption)
            have q166 : x5_1 < (l0.length : Int) := of_decide_eq_true (by first | (with_reducible assumption) | assumption)
            obtain ⟨ad166, A166_0, c166_0, e166, hx166_0, hl166_0, hi166_0⟩ := at_L1 HR0.out x5_1 p166 q166
            cases e166
            have HR166_0 := Aside0.mk hi166_0
            have HC166_0 := Aside0.mk hl166_0
            clear hi166_0 hl166_0
            replace p166 := eq_true p166
            replace q166 := eq_true q166
            go_wp2_with (first | ((with_reducible refine gC 23 ?_); refine cL (some 17) Try.func23 #[.slice A166_0 (rd_L1 l0 x5_1).length c166_0, .int .i64 x1_1] ?_; (with_reducible refine (laws_heldIntS.calls k1 _ _ (rd_L1 l0 x5_1) x1_1 t167 _ ?side1 ?side2 A5.out).mono ?_); (case side1 => repeat (first | exact HR166_0.out | (with_reducible refine Kd.C_alloc ?_ _) | (with_reducible refine Kd.C_drewN ?_ _) | (with_reducible refine Kd.C_drew ?_))); (case side2 => exact HC166_0.out); rintro e w' ⟨rfl, ⟨nd, rfl⟩⟩; refine ⟨_, rfl, ?_⟩))
            go_roundg k1
            case measure => have := HK1.out; omega
            case rel => exact ⟨(t167), (wrap64 (x5_1 + 1)), (by first | rfl | (simp; done) | (simp [*]; done)), (by first | rfl | (simp; done) | (simp [*]; done)), H', ⟨by have := HK1.out; omega⟩, by repeat (first | exact Drawn0.refl _ | apply Drawn0.step)⟩
        · rw [if_neg c4] at H
          exact absurd H (by simp)
      · rw [if_neg c3] at H
        have c3b0 : decide (x5_1 < (l0.length : Int)) = false := decide_eq_false c3
        clear c3
        obtain rfl := Option.some.inj H
        go_wp2
        go_ret
        exact ⟨by first | rfl | (simp; done) | (simp [*]; done), by repeat (first | exact Drawn0.refl _ | apply Drawn0.step)⟩

/-! ### laws_heldPointS: function 121 -/
def laws_heldPointS.l0 : Nat → List (S166) → Int → Int → Option (Int)
  | 0, _, _, _ => none
  | k + 1, x0, x1, x5 => if x5 < (x0.length : Int) then (if 0 ≤ x5 then (if ((rd_T166 x0 x5).f0) = x1 then (if ((rd_T166 x0 x5).f1) = (wrap64 (x1 + 1)) then (laws_heldPointS.l0 k x0 (wrap64 ((wrap64 (x1 + 1)) + 1)) (wrap64 (x5 + 1))) else (some (-1))) else (some (-1))) else (none)) else (some x1)
def laws_heldPointS.f (k : Nat) (l0 : List (S166)) (a1 : Int) : Option (Int) := laws_heldPointS.l0 k l0 a1 0
theorem laws_heldPointS.calls (k : Nat) (A0 : Option Addr) (c0 : Nat) (l0 : List (S166)) (a1 : Int) (r : Int) (w : World) (hr0 : Kd.C k166 w A0 l0.length l0) (hc0 : l0.length ≤ c0) (h : laws_heldPointS.f k l0 a1 = some r) :
    Calls Try.prog 121 #[.slice A0 l0.length c0, .int .i64 a1] w fun e w' => e = .returned (.int .i64 r) ∧ Drawn0 w w' := by
  have HR0 := Aside0.mk hr0
  have HC0 := Aside0.mk hc0
  clear hr0 hc0
  have H : (laws_heldPointS.l0 k l0 a1 0) = some r := h
  clear h
  have H' := Aside0.mk H
  clear H
  go_enter Try.func121, Try.ntmps121
  go_wp2
  go_loopg [1, 5] k (fun kq v1 v5 w' => ∃ (x1_1 : Int) (x5_1 : Int), v1 = .int .i64 x1_1 ∧ v5 = .int .i64 x5_1 ∧ Aside0 (laws_heldPointS.l0 kq l0 x1_1 x5_1 = some r) ∧ Aside0 (kq ≤ k) ∧ Drawn0 w w')
  case atStart => exact ⟨(a1), (0), (by first | rfl | (simp; done) | (simp [*]; done)), (by first | rfl | (simp; done) | (simp [*]; done)), H', ⟨Nat.le_refl _⟩, by repeat (first | exact Drawn0.refl _ | apply Drawn0.step)⟩
  case round =>
    clear H'
    try clear c1
    try clear p2
    obtain ⟨x1_1, x5_1, rfl, rfl, HA, HK1, ⟨m1, rfl⟩⟩ := hrel
    cases gk with
    | zero => exact absurd HA.out (by simp [laws_heldPointS.l0])
    | succ k1 =>
      have H := HA.out
      clear HA
      simp only [laws_heldPointS.l0] at H
      by_cases c3 : x5_1 < (l0.length : Int)
      · rw [if_pos c3] at H
        have c3b0 : decide (x5_1 < (l0.length : Int)) = true := decide_eq_true c3
        clear c3
        by_cases c4 : 0 ≤ x5_1
        · rw [if_pos c4] at H
          have c4b0 : decide (0 ≤ x5_1) = true := decide_eq_true c4
          clear c4
          by_cases c5 : ((rd_T166 l0 x5_1).f0) = x1_1
          · rw [if_pos c5] at H
            have c5b0 : (((rd_T166 l0 x5_1).f0) == x1_1) = true := beq_iff_eq.mpr c5
            have c5b1 : (((rd_T166 l0 x5_1).f0) != x1_1) = false := bne_eq_false_iff_eq.mpr c5
            clear c5
            by_cases c6 : ((rd_T166 l0 x5_1).f1) = (wrap64 (x1_1 + 1))
            · rw [if_pos c6] at H
              have c6b0 : (((rd_T166 l0 x5_1).f1) == (wrap64 (x1_1 + 1))) = true := beq_iff_eq.mpr c6
              have c6b1 : (((rd_T166 l0 x5_1).f1) != (wrap64 (x1_1 + 1))) = false := bne_eq_false_iff_eq.mpr c6
              clear c6
              have H' := Aside0.mk H
              clear H
              have p168 : 0 ≤ (x5_1 : Int) := of_decide_eq_true (by first | (with_reducible assumption) | assumption)
              have q168 : x5_1 < (l0.length : Int) := of_decide_eq_true (by first | (with_reducible assumption) | assumption)
              obtain ⟨ad168, e168, hx168_0, hx168_1⟩ := at_T166 HR0.out x5_1 p168 q168
              cases e168
              replace p168 := eq_true p168
              replace q168 := eq_true q168
              have p169 : 0 ≤ (x5_1 : Int) := of_decide_eq_true (by first | (with_reducible assumption) | assumption)
              have q169 : x5_1 < (l0.length : Int) := of_decide_eq_true (by first | (with_reducible assumption) | assumption)
              obtain ⟨ad169, e169, hx169_0, hx169_1⟩ := at_T166 HR0.out x5_1 p169 q169
              obtain rfl : ad168 = ad169 := (by injection e169)
              replace p169 := eq_true p169
              replace q169 := eq_true q169
              go_wp2
              go_roundg k1
              case measure => have := HK1.out; omega
              case rel => exact ⟨(wrap64 ((wrap64 (x1_1 + 1)) + 1)), (wrap64 (x5_1 + 1)), (by first | rfl | (simp; done) | (simp [*]; done)), (by first | rfl | (simp; done) | (simp [*]; done)), H', ⟨by have := HK1.out; omega⟩, by repeat (first | exact Drawn0.refl _ | apply Drawn0.step)⟩
            · rw [if_neg c6] at H
              have c6b0 : (((rd_T166 l0 x5_1).f1) == (wrap64 (x1_1 + 1))) = false := beq_eq_false_iff_ne.mpr c6
              have c6b1 : (((rd_T166 l0 x5_1).f1) != (wrap64 (x1_1 + 1))) = true := bne_iff_ne.mpr c6
              obtain rfl := Option.some.inj H
              have p168 : 0 ≤ (x5_1 : Int) := of_decide_eq_true (by first | (with_reducible assumption) | assumption)
              have q168 : x5_1 < (l0.length : Int) := of_decide_eq_true (by first | (with_reducible assumption) | assumption)
              obtain ⟨ad168, e168, hx168_0, hx168_1⟩ := at_T166 HR0.out x5_1 p168 q168
              cases e168
              replace p168 := eq_true p168
              replace q168 := eq_true q168
              have p169 : 0 ≤ (x5_1 : Int) := of_decide_eq_true (by first | (with_reducible assumption) | assumption)
              have q169 : x5_1 < (l0.length : Int) := of_decide_eq_true (by first | (with_reducible assumption) | assumption)
              obtain ⟨ad169, e169, hx169_0, hx169_1⟩ := at_T166 HR0.out x5_1 p169 q169
              obtain rfl : ad168 = ad169 := (by injection e169)
              replace p169 := eq_true p169
              replace q169 := eq_true q169
              go_wp2
              go_ret
              exact ⟨by first | rfl | (simp; done) | (simp [*]; done), by repeat (first | exact Drawn0.refl _ | apply Drawn0.step)⟩
          · rw [if_neg c5] at H
            have c5b0 : (((rd_T166 l0 x5_1).f0) == x1_1) = false := beq_eq_false_iff_ne.mpr c5
            have c5b1 : (((rd_T166 l0 x5_1).f0) != x1_1) = true := bne_iff_ne.mpr c5
            obtain rfl := Option.some.inj H
            have p168 : 0 ≤ (x5_1 : Int) := of_decide_eq_true (by first | (with_reducible assumption) | assumption)
            have q168 : x5_1 < (l0.length : Int) := of_decide_eq_true (by first | (with_reducible assumption) | assumption)
            obtain ⟨ad168, e168, hx168_0, hx168_1⟩ := at_T166 HR0.out x5_1 p168 q168
            cases e168
            replace p168 := eq_true p168
            replace q168 := eq_true q168
            go_wp2
            go_ret
            exact ⟨by first | rfl | (simp; done) | (simp [*]; done), by repeat (first | exact Drawn0.refl _ | apply Drawn0.step)⟩
        · rw [if_neg c4] at H
          exact absurd H (by simp)
      · rw [if_neg c3] at H
        have c3b0 : decide (x5_1 < (l0.length : Int)) = false := decide_eq_false c3
        clear c3
        obtain rfl := Option.some.inj H
        go_wp2
        go_ret
        exact ⟨by first | rfl | (simp; done) | (simp [*]; done), by repeat (first | exact Drawn0.refl _ | apply Drawn0.step)⟩

/-! ### laws_heldObjectS: function 69 -/
def laws_heldObjectS.l0 : Nat → List (S41) → Int → Int → Option (Int)
  | 0, _, _, _ => none
  | k + 1, x0, x1, x5 => if x5 < (x0.length : Int) then (if 0 ≤ x5 then ((laws_heldPointS.f k ((rd_T41 x0 x5).f0) x1).bind fun t171 => (if t171 < 0 then (some (-1)) else (if ((rd_T41 x0 x5).f1) = t171 then (if ((rd_T41 x0 x5).f2.f0) = (wrap64 (t171 + 1)) then (if ((rd_T41 x0 x5).f2.f1) = (wrap64 ((wrap64 (t171 + 1)) + 1)) then (if ((rd_T41 x0 x5).f2.f2) = (wrap64 ((wrap64 ((wrap64 (t171 + 1)) + 1)) + 1)) then (if ((rd_T41 x0 x5).f2.f3) = (wrap64 ((wrap64 ((wrap64 ((wrap64 (t171 + 1)) + 1)) + 1)) + 1)) then (laws_heldObjectS.l0 k x0 (wrap64 ((wrap64 ((wrap64 ((wrap64 ((wrap64 (t171 + 1)) + 1)) + 1)) + 1)) + 1)) (wrap64 (x5 + 1))) else (some (-1))) else (some (-1))) else (some (-1))) else (some (-1))) else (some (-1))))) else (none)) else (some x1)
def laws_heldObjectS.f (k : Nat) (l0 : List (S41)) (a1 : Int) : Option (Int) := laws_heldObjectS.l0 k l0 a1 0
theorem laws_heldObjectS.calls (k : Nat) (A0 : Option Addr) (c0 : Nat) (l0 : List (S41)) (a1 : Int) (r : Int) (w : World) (hr0 : Kd.C k41 w A0 l0.length l0) (hc0 : l0.length ≤ c0) (h : laws_heldObjectS.f k l0 a1 = some r) :
    Calls Try.prog 69 #[.slice A0 l0.length c0, .int .i64 a1] w fun e w' => e = .returned (.int .i64 r) ∧ Drawn0 w w' := by
  have HR0 := Aside0.mk hr0
  have HC0 := Aside0.mk hc0
  clear hr0 hc0
  have H : (laws_heldObjectS.l0 k l0 a1 0) = some r := h
  clear h
  have H' := Aside0.mk H
  clear H
  go_enter Try.func69, Try.ntmps69
  go_wp2
  go_loopg [1, 5] k (fun kq v1 v5 w' => ∃ (x1_1 : Int) (x5_1 : Int), v1 = .int .i64 x1_1 ∧ v5 = .int .i64 x5_1 ∧ Aside0 (laws_heldObjectS.l0 kq l0 x1_1 x5_1 = some r) ∧ Aside0 (kq ≤ k) ∧ Drawn0 w w')
  case atStart => exact ⟨(a1), (0), (by first | rfl | (simp; done) | (simp [*]; done)), (by first | rfl | (simp; done) | (simp [*]; done)), H', ⟨Nat.le_refl _⟩, by repeat (first | exact Drawn0.refl _ | apply Drawn0.step)⟩
  case round =>
    clear H'
    try clear p2
    obtain ⟨x1_1, x5_1, rfl, rfl, HA, HK1, ⟨m1, rfl⟩⟩ := hrel
    cases gk with
    | zero => exact absurd HA.out (by simp [laws_heldObjectS.l0])
    | succ k1 =>
      have H := HA.out
      clear HA
      simp only [laws_heldObjectS.l0] at H
      by_cases c3 : x5_1 < (l0.length : Int)
      · rw [if_pos c3] at H
        have c3b0 : decide (x5_1 < (l0.length : Int)) = true := decide_eq_true c3
        clear c3
        by_cases c4 : 0 ≤ x5_1
        · rw [if_pos c4] at H
          have c4b0 : decide (0 ≤ x5_1) = true := decide_eq_true c4
          clear c4
          replace H := bN H
          obtain ⟨t171, A5, H⟩ := H
          by_cases c6 : t171 < 0
          · rw [if_pos c6] at H
            have c6b0 : decide (t171 < 0) = true := decide_eq_true c6
            clear c6
            obtain rfl := Option.some.inj H
            have p170 : 0 ≤ (x5_1 : Int) := of_decide_eq_true (by first | (with_reducible assumption) | assumption)
            have q170 : x5_1 < (l0.length : Int) := of_decide_eq_true (by first | (with_reducible assumption) | assumption)
            obtain ⟨ad170, A170_0, c170_0, e170, hx170_0, hx170_1, hx170_2, hx170_3, hx170_4, hx170_5, hl170_0, hi170_0⟩ := at_T41 HR0.out x5_1 p170 q170
            cases e170
            have HR170_0 := Aside0.mk hi170_0
            have HC170_0 := Aside0.mk hl170_0
            clear hi170_0 hl170_0
            replace p170 := eq_true p170
            replace q170 := eq_true q170
            go_wp2_with (first | ((with_reducible refine gC 121 ?_); refine cL (some 18) Try.func121 #[.slice A170_0 ((rd_T41 l0 x5_1).f0).length c170_0, .int .i64 x1_1] ?_; (with_reducible refine (laws_heldPointS.calls k1 _ _ ((rd_T41 l0 x5_1).f0) x1_1 t171 _ ?side1 ?side2 A5.out).mono ?_); (case side1 => repeat (first | exact HR170_0.out | (with_reducible refine Kd.C_alloc ?_ _) | (with_reducible refine Kd.C_drewN ?_ _) | (with_reducible refine Kd.C_drew ?_))); (case side2 => exact HC170_0.out); rintro e w' ⟨rfl, ⟨nd, rfl⟩⟩; refine ⟨_, rfl, ?_⟩))
            go_ret
            exact ⟨by first | rfl | (simp; done) | (simp [*]; done), by repeat (first | exact Drawn0.refl _ | apply Drawn0.step)⟩
          · rw [if_neg c6] at H
            have c6b0 : decide (t171 < 0) = false := decide_eq_false c6
            clear c6
            by_cases c7 : ((rd_T41 l0 x5_1).f1) = t171
            · rw [if_pos c7] at H
              have c7b0 : (((rd_T41 l0 x5_1).f1) == t171) = true := beq_iff_eq.mpr c7
              have c7b1 : (((rd_T41 l0 x5_1).f1) != t171) = false := bne_eq_false_iff_eq.mpr c7
              clear c7
              by_cases c8 : ((rd_T41 l0 x5_1).f2.f0) = (wrap64 (t171 + 1))
              · rw [if_pos c8] at H
                have c8b0 : (((rd_T41 l0 x5_1).f2.f0) == (wrap64 (t171 + 1))) = true := beq_iff_eq.mpr c8
                have c8b1 : (((rd_T41 l0 x5_1).f2.f0) != (wrap64 (t171 + 1))) = false := bne_eq_false_iff_eq.mpr c8
                clear c8
                by_cases c9 : ((rd_T41 l0 x5_1).f2.f1) = (wrap64 ((wrap64 (t171 + 1)) + 1))
                · rw [if_pos c9] at H
                  have c9b0 : (((rd_T41 l0 x5_1).f2.f1) == (wrap64 ((wrap64 (t171 + 1)) + 1))) = true := beq_iff_eq.mpr c9
                  have c9b1 : (((rd_T41 l0 x5_1).f2.f1) != (wrap64 ((wrap64 (t171 + 1)) + 1))) = false := bne_eq_false_iff_eq.mpr c9
                  clear c9
                  by_cases c10 : ((rd_T41 l0 x5_1).f2.f2) = (wrap64 ((wrap64 ((wrap64 (t171 + 1)) + 1)) + 1))
                  · rw [if_pos c10] at H
                    have c10b0 : (((rd_T41 l0 x5_1).f2.f2) == (wrap64 ((wrap64 ((wrap64 (t171 + 1)) + 1)) + 1))) = true := beq_iff_eq.mpr c10
                    have c10b1 : (((rd_T41 l0 x5_1).f2.f2) != (wrap64 ((wrap64 ((wrap64 (t171 + 1)) + 1)) + 1))) = false := bne_eq_false_iff_eq.mpr c10
                    clear c10
                    by_cases c11 : ((rd_T41 l0 x5_1).f2.f3) = (wrap64 ((wrap64 ((wrap64 ((wrap64 (t171 + 1)) + 1)) + 1)) + 1))
                    · rw [if_pos c11] at H
                      have c11b0 : (((rd_T41 l0 x5_1).f2.f3) == (wrap64 ((wrap64 ((wrap64 ((wrap64 (t171 + 1)) + 1)) + 1)) + 1))) = true := beq_iff_eq.mpr c11
                      have c11b1 : (((rd_T41 l0 x5_1).f2.f3) != (wrap64 ((wrap64 ((wrap64 ((wrap64 (t171 + 1)) + 1)) + 1)) + 1))) = false := bne_eq_false_iff_eq.mpr c11
                      clear c11
                      have H' := Aside0.mk H
                      clear H
                      have p170 : 0 ≤ (x5_1 : Int) := of_decide_eq_true (by first | (with_reducible assumption) | assumption)
                      have q170 : x5_1 < (l0.length : Int) := of_decide_eq_true (by first | (with_reducible assumption) | assumption)
                      obtain ⟨ad170, A170_0, c170_0, e170, hx170_0, hx170_1, hx170_2, hx170_3, hx170_4, hx170_5, hl170_0, hi170_0⟩ := at_T41 HR0.out x5_1 p170 q170
                      cases e170
                      have HR170_0 := Aside0.mk hi170_0
                      have HC170_0 := Aside0.mk hl170_0
                      clear hi170_0 hl170_0
                      replace p170 := eq_true p170
                      replace q170 := eq_true q170
                      go_wp2_with (first | ((with_reducible refine gC 121 ?_); refine cL (some 18) Try.func121 #[.slice A170_0 ((rd_T41 l0 x5_1).f0).length c170_0, .int .i64 x1_1] ?_; (with_reducible refine (laws_heldPointS.calls k1 _ _ ((rd_T41 l0 x5_1).f0) x1_1 t171 _ ?side1 ?side2 A5.out).mono ?_); (case side1 => repeat (first | exact HR170_0.out | (with_reducible refine Kd.C_alloc ?_ _) | (with_reducible refine Kd.C_drewN ?_ _) | (with_reducible refine Kd.C_drew ?_))); (case side2 => exact HC170_0.out); rintro e w' ⟨rfl, ⟨nd, rfl⟩⟩; refine ⟨_, rfl, ?_⟩; have p172 : 0 ≤ (x5_1 : Int) := of_decide_eq_true (by first | (with_reducible assumption) | assumption); have q172 : x5_1 < (l0.length : Int) := of_decide_eq_true (by first | (with_reducible assumption) | assumption); obtain ⟨ad172, A172_0, c172_0, e172, hx172_0, hx172_1, hx172_2, hx172_3, hx172_4, hx172_5, hl172_0, hi172_0⟩ := at_T41 HR0.out x5_1 p172 q172; obtain rfl : ad170 = ad172 := (by injection e172); have HR172_0 := Aside0.mk hi172_0; have HC172_0 := Aside0.mk hl172_0; clear hi172_0 hl172_0; replace p172 := eq_true p172; replace q172 := eq_true q172; have ea_ := Option.some.inj (hx170_0.symm.trans hx172_0); injection ea_ with ea_ en_ ec_; subst ea_; subst ec_; clear en_; have p173 : 0 ≤ (x5_1 : Int) := of_decide_eq_true (by first | (with_reducible assumption) | assumption); have q173 : x5_1 < (l0.length : Int) := of_decide_eq_true (by first | (with_reducible assumption) | assumption); obtain ⟨ad173, A173_0, c173_0, e173, hx173_0, hx173_1, hx173_2, hx173_3, hx173_4, hx173_5, hl173_0, hi173_0⟩ := at_T41 HR0.out x5_1 p173 q173; obtain rfl : ad170 = ad173 := (by injection e173); have HR173_0 := Aside0.mk hi173_0; have HC173_0 := Aside0.mk hl173_0; clear hi173_0 hl173_0; replace p173 := eq_true p173; replace q173 := eq_true q173; have ea_ := Option.some.inj (hx170_0.symm.trans hx173_0); injection ea_ with ea_ en_ ec_; subst ea_; subst ec_; clear en_; have p174 : 0 ≤ (x5_1 : Int) := of_decide_eq_true (by first | (with_reducible assumption) | assumption); have q174 : x5_1 < (l0.length : Int) := of_decide_eq_true (by first | (with_reducible assumption) | assumption); obtain ⟨ad174, A174_0, c174_0, e174, hx174_0, hx174_1, hx174_2, hx174_3, hx174_4, hx174_5, hl174_0, hi174_0⟩ := at_T41 HR0.out x5_1 p174 q174; obtain rfl : ad170 = ad174 := (by injection e174); have HR174_0 := Aside0.mk hi174_0; have HC174_0 := Aside0.mk hl174_0; clear hi174_0 hl174_0; replace p174 := eq_true p174; replace q174 := eq_true q174; have ea_ := Option.some.inj (hx170_0.symm.trans hx174_0); injection ea_ with ea_ en_ ec_; subst ea_; subst ec_; clear en_; have p175 : 0 ≤ (x5_1 : Int) := of_decide_eq_true (by first | (with_reducible assumption) | assumption); have q175 : x5_1 < (l0.length : Int) := of_decide_eq_true (by first | (with_reducible assumption) | assumption); obtain ⟨ad175, A175_0, c175_0, e175, hx175_0, hx175_1, hx175_2, hx175_3, hx175_4, hx175_5, hl175_0, hi175_0⟩ := at_T41 HR0.out x5_1 p175 q175; obtain rfl : ad170 = ad175 := (by injection e175); have HR175_0 := Aside0.mk hi175_0; have HC175_0 := Aside0.mk hl175_0; clear hi175_0 hl175_0; replace p175 := eq_true p175; replace q175 := eq_true q175; have ea_ := Option.some.inj (hx170_0.symm.trans hx175_0); injection ea_ with ea_ en_ ec_; subst ea_; subst ec_; clear en_; have p176 : 0 ≤ (x5_1 : Int) := of_decide_eq_true (by first | (with_reducible assumption) | assumption); have q176 : x5_1 < (l0.length : Int) := of_decide_eq_true (by first | (with_reducible assumption) | assumption); obtain ⟨ad176, A176_0, c176_0, e176, hx176_0, hx176_1, hx176_2, hx176_3, hx176_4, hx176_5, hl176_0, hi176_0⟩ := at_T41 HR0.out x5_1 p176 q176; obtain rfl : ad170 = ad176 := (by injection e176); have HR176_0 := Aside0.mk hi176_0; have HC176_0 := Aside0.mk hl176_0; clear hi176_0 hl176_0; replace p176 := eq_true p176; replace q176 := eq_true q176; have ea_ := Option.some.inj (hx170_0.symm.trans hx176_0); injection ea_ with ea_ en_ ec_; subst ea_; subst ec_; clear en_))
                      go_roundg k1
                      case measure => have := HK1.out; omega
                      case rel => exact ⟨(wrap64 ((wrap64 ((wrap64 ((wrap64 ((wrap64 (t171 + 1)) + 1)) + 1)) + 1)) + 1)), (wrap64 (x5_1 + 1)), (by first | rfl | (simp; done) | (simp [*]; done)), (by first | rfl | (simp; done) | (simp [*]; done)), H', ⟨by have := HK1.out; omega⟩, by repeat (first | exact Drawn0.refl _ | apply Drawn0.step)⟩
                    · rw [if_neg c11] at H
                      have c11b0 : (((rd_T41 l0 x5_1).f2.f3) == (wrap64 ((wrap64 ((wrap64 ((wrap64 (t171 + 1)) + 1)) + 1)) + 1))) = false := beq_eq_false_iff_ne.mpr c11
                      have c11b1 : (((rd_T41 l0 x5_1).f2.f3) != (wrap64 ((wrap64 ((wrap64 ((wrap64 (t171 + 1)) + 1)) + 1)) + 1))) = true := bne_iff_ne.mpr c11
                      obtain rfl := Option.some.inj H
                      have p170 : 0 ≤ (x5_1 : Int) := of_decide_eq_true (by first | (with_reducible assumption) | assumption)
                      have q170 : x5_1 < (l0.length : Int) := of_decide_eq_true (by first | (with_reducible assumption) | assumption)
                      obtain ⟨ad170, A170_0, c170_0, e170, hx170_0, hx170_1, hx170_2, hx170_3, hx170_4, hx170_5, hl170_0, hi170_0⟩ := at_T41 HR0.out x5_1 p170 q170
                      cases e170
                      have HR170_0 := Aside0.mk hi170_0
                      have HC170_0 := Aside0.mk hl170_0
                      clear hi170_0 hl170_0
                      replace p170 := eq_true p170
                      replace q170 := eq_true q170
                      go_wp2_with (first | ((with_reducible refine gC 121 ?_); refine cL (some 18) Try.func121 #[.slice A170_0 ((rd_T41 l0 x5_1).f0).length c170_0, .int .i64 x1_1] ?_; (with_reducible refine (laws_heldPointS.calls k1 _ _ ((rd_T41 l0 x5_1).f0) x1_1 t171 _ ?side1 ?side2 A5.out).mono ?_); (case side1 => repeat (first | exact HR170_0.out | (with_reducible refine Kd.C_alloc ?_ _) | (with_reducible refine Kd.C_drewN ?_ _) | (with_reducible refine Kd.C_drew ?_))); (case side2 => exact HC170_0.out); rintro e w' ⟨rfl, ⟨nd, rfl⟩⟩; refine ⟨_, rfl, ?_⟩; have p172 : 0 ≤ (x5_1 : Int) := of_decide_eq_true (by first | (with_reducible assumption) | assumption); have q172 : x5_1 < (l0.length : Int) := of_decide_eq_true (by first | (with_reducible assumption) | assumption); obtain ⟨ad172, A172_0, c172_0, e172, hx172_0, hx172_1, hx172_2, hx172_3, hx172_4, hx172_5, hl172_0, hi172_0⟩ := at_T41 HR0.out x5_1 p172 q172; obtain rfl : ad170 = ad172 := (by injection e172); have HR172_0 := Aside0.mk hi172_0; have HC172_0 := Aside0.mk hl172_0; clear hi172_0 hl172_0; replace p172 := eq_true p172; replace q172 := eq_true q172; have ea_ := Option.some.inj (hx170_0.symm.trans hx172_0); injection ea_ with ea_ en_ ec_; subst ea_; subst ec_; clear en_; have p173 : 0 ≤ (x5_1 : Int) := of_decide_eq_true (by first | (with_reducible assumption) | assumption); have q173 : x5_1 < (l0.length : Int) := of_decide_eq_true (by first | (with_reducible assumption) | assumption); obtain ⟨ad173, A173_0, c173_0, e173, hx173_0, hx173_1, hx173_2, hx173_3, hx173_4, hx173_5, hl173_0, hi173_0⟩ := at_T41 HR0.out x5_1 p173 q173; obtain rfl : ad170 = ad173 := (by injection e173); have HR173_0 := Aside0.mk hi173_0; have HC173_0 := Aside0.mk hl173_0; clear hi173_0 hl173_0; replace p173 := eq_true p173; replace q173 := eq_true q173; have ea_ := Option.some.inj (hx170_0.symm.trans hx173_0); injection ea_ with ea_ en_ ec_; subst ea_; subst ec_; clear en_; have p174 : 0 ≤ (x5_1 : Int) := of_decide_eq_true (by first | (with_reducible assumption) | assumption); have q174 : x5_1 < (l0.length : Int) := of_decide_eq_true (by first | (with_reducible assumption) | assumption); obtain ⟨ad174, A174_0, c174_0, e174, hx174_0, hx174_1, hx174_2, hx174_3, hx174_4, hx174_5, hl174_0, hi174_0⟩ := at_T41 HR0.out x5_1 p174 q174; obtain rfl : ad170 = ad174 := (by injection e174); have HR174_0 := Aside0.mk hi174_0; have HC174_0 := Aside0.mk hl174_0; clear hi174_0 hl174_0; replace p174 := eq_true p174; replace q174 := eq_true q174; have ea_ := Option.some.inj (hx170_0.symm.trans hx174_0); injection ea_ with ea_ en_ ec_; subst ea_; subst ec_; clear en_; have p175 : 0 ≤ (x5_1 : Int) := of_decide_eq_true (by first | (with_reducible assumption) | assumption); have q175 : x5_1 < (l0.length : Int) := of_decide_eq_true (by first | (with_reducible assumption) | assumption); obtain ⟨ad175, A175_0, c175_0, e175, hx175_0, hx175_1, hx175_2, hx175_3, hx175_4, hx175_5, hl175_0, hi175_0⟩ := at_T41 HR0.out x5_1 p175 q175; obtain rfl : ad170 = ad175 := (by injection e175); have HR175_0 := Aside0.mk hi175_0; have HC175_0 := Aside0.mk hl175_0; clear hi175_0 hl175_0; replace p175 := eq_true p175; replace q175 := eq_true q175; have ea_ := Option.some.inj (hx170_0.symm.trans hx175_0); injection ea_ with ea_ en_ ec_; subst ea_; subst ec_; clear en_; have p176 : 0 ≤ (x5_1 : Int) := of_decide_eq_true (by first | (with_reducible assumption) | assumption); have q176 : x5_1 < (l0.length : Int) := of_decide_eq_true (by first | (with_reducible assumption) | assumption); obtain ⟨ad176, A176_0, c176_0, e176, hx176_0, hx176_1, hx176_2, hx176_3, hx176_4, hx176_5, hl176_0, hi176_0⟩ := at_T41 HR0.out x5_1 p176 q176; obtain rfl : ad170 = ad176 := (by injection e176); have HR176_0 := Aside0.mk hi176_0; have HC176_0 := Aside0.mk hl176_0; clear hi176_0 hl176_0; replace p176 := eq_true p176; replace q176 := eq_true q176; have ea_ := Option.some.inj (hx170_0.symm.trans hx176_0); injection ea_ with ea_ en_ ec_; subst ea_; subst ec_; clear en_))
                      go_ret
                      exact ⟨by first | rfl | (simp; done) | (simp [*]; done), by repeat (first | exact Drawn0.refl _ | apply Drawn0.step)⟩
                  · rw [if_neg c10] at H
                    have c10b0 : (((rd_T41 l0 x5_1).f2.f2) == (wrap64 ((wrap64 ((wrap64 (t171 + 1)) + 1)) + 1))) = false := beq_eq_false_iff_ne.mpr c10
                    have c10b1 : (((rd_T41 l0 x5_1).f2.f2) != (wrap64 ((wrap64 ((wrap64 (t171 + 1)) + 1)) + 1))) = true := bne_iff_ne.mpr c10
                    obtain rfl := Option.some.inj H
                    have p170 : 0 ≤ (x5_1 : Int) := of_decide_eq_true (by first | (with_reducible assumption) | assumption)
                    have q170 : x5_1 < (l0.length : Int) := of_decide_eq_true (by first | (with_reducible assumption) | assumption)
                    obtain ⟨ad170, A170_0, c170_0, e170, hx170_0, hx170_1, hx170_2, hx170_3, hx170_4, hx170_5, hl170_0, hi170_0⟩ := at_T41 HR0.out x5_1 p170 q170
                    cases e170
                    have HR170_0 := Aside0.mk hi170_0
                    have HC170_0 := Aside0.mk hl170_0
                    clear hi170_0 hl170_0
                    replace p170 := eq_true p170
                    replace q170 := eq_true q170
                    go_wp2_with (first | ((with_reducible refine gC 121 ?_); refine cL (some 18) Try.func121 #[.slice A170_0 ((rd_T41 l0 x5_1).f0).length c170_0, .int .i64 x1_1] ?_; (with_reducible refine (laws_heldPointS.calls k1 _ _ ((rd_T41 l0 x5_1).f0) x1_1 t171 _ ?side1 ?side2 A5.out).mono ?_); (case side1 => repeat (first | exact HR170_0.out | (with_reducible refine Kd.C_alloc ?_ _) | (with_reducible refine Kd.C_drewN ?_ _) | (with_reducible refine Kd.C_drew ?_))); (case side2 => exact HC170_0.out); rintro e w' ⟨rfl, ⟨nd, rfl⟩⟩; refine ⟨_, rfl, ?_⟩; have p172 : 0 ≤ (x5_1 : Int) := of_decide_eq_true (by first | (with_reducible assumption) | assumption); have q172 : x5_1 < (l0.length : Int) := of_decide_eq_true (by first | (with_reducible assumption) | assumption); obtain ⟨ad172, A172_0, c172_0, e172, hx172_0, hx172_1, hx172_2, hx172_3, hx172_4, hx172_5, hl172_0, hi172_0⟩ := at_T41 HR0.out x5_1 p172 q172; obtain rfl : ad170 = ad172 := (by injection e172); have HR172_0 := Aside0.mk hi172_0; have HC172_0 := Aside0.mk hl172_0; clear hi172_0 hl172_0; replace p172 := eq_true p172; replace q172 := eq_true q172; have ea_ := Option.some.inj (hx170_0.symm.trans hx172_0); injection ea_ with ea_ en_ ec_; subst ea_; subst ec_; clear en_; have p173 : 0 ≤ (x5_1 : Int) := of_decide_eq_true (by first | (with_reducible assumption) | assumption); have q173 : x5_1 < (l0.length : Int) := of_decide_eq_true (by first | (with_reducible assumption) | assumption); obtain ⟨ad173, A173_0, c173_0, e173, hx173_0, hx173_1, hx173_2, hx173_3, hx173_4, hx173_5, hl173_0, hi173_0⟩ := at_T41 HR0.out x5_1 p173 q173; obtain rfl : ad170 = ad173 := (by injection e173); have HR173_0 := Aside0.mk hi173_0; have HC173_0 := Aside0.mk hl173_0; clear hi173_0 hl173_0; replace p173 := eq_true p173; replace q173 := eq_true q173; have ea_ := Option.some.inj (hx170_0.symm.trans hx173_0); injection ea_ with ea_ en_ ec_; subst ea_; subst ec_; clear en_; have p174 : 0 ≤ (x5_1 : Int) := of_decide_eq_true (by first | (with_reducible assumption) | assumption); have q174 : x5_1 < (l0.length : Int) := of_decide_eq_true (by first | (with_reducible assumption) | assumption); obtain ⟨ad174, A174_0, c174_0, e174, hx174_0, hx174_1, hx174_2, hx174_3, hx174_4, hx174_5, hl174_0, hi174_0⟩ := at_T41 HR0.out x5_1 p174 q174; obtain rfl : ad170 = ad174 := (by injection e174); have HR174_0 := Aside0.mk hi174_0; have HC174_0 := Aside0.mk hl174_0; clear hi174_0 hl174_0; replace p174 := eq_true p174; replace q174 := eq_true q174; have ea_ := Option.some.inj (hx170_0.symm.trans hx174_0); injection ea_ with ea_ en_ ec_; subst ea_; subst ec_; clear en_; have p175 : 0 ≤ (x5_1 : Int) := of_decide_eq_true (by first | (with_reducible assumption) | assumption); have q175 : x5_1 < (l0.length : Int) := of_decide_eq_true (by first | (with_reducible assumption) | assumption); obtain ⟨ad175, A175_0, c175_0, e175, hx175_0, hx175_1, hx175_2, hx175_3, hx175_4, hx175_5, hl175_0, hi175_0⟩ := at_T41 HR0.out x5_1 p175 q175; obtain rfl : ad170 = ad175 := (by injection e175); have HR175_0 := Aside0.mk hi175_0; have HC175_0 := Aside0.mk hl175_0; clear hi175_0 hl175_0; replace p175 := eq_true p175; replace q175 := eq_true q175; have ea_ := Option.some.inj (hx170_0.symm.trans hx175_0); injection ea_ with ea_ en_ ec_; subst ea_; subst ec_; clear en_))
                    go_ret
                    exact ⟨by first | rfl | (simp; done) | (simp [*]; done), by repeat (first | exact Drawn0.refl _ | apply Drawn0.step)⟩
                · rw [if_neg c9] at H
                  have c9b0 : (((rd_T41 l0 x5_1).f2.f1) == (wrap64 ((wrap64 (t171 + 1)) + 1))) = false := beq_eq_false_iff_ne.mpr c9
                  have c9b1 : (((rd_T41 l0 x5_1).f2.f1) != (wrap64 ((wrap64 (t171 + 1)) + 1))) = true := bne_iff_ne.mpr c9
                  obtain rfl := Option.some.inj H
                  have p170 : 0 ≤ (x5_1 : Int) := of_decide_eq_true (by first | (with_reducible assumption) | assumption)
                  have q170 : x5_1 < (l0.length : Int) := of_decide_eq_true (by first | (with_reducible assumption) | assumption)
                  obtain ⟨ad170, A170_0, c170_0, e170, hx170_0, hx170_1, hx170_2, hx170_3, hx170_4, hx170_5, hl170_0, hi170_0⟩ := at_T41 HR0.out x5_1 p170 q170
                  cases e170
                  have HR170_0 := Aside0.mk hi170_0
                  have HC170_0 := Aside0.mk hl170_0
                  clear hi170_0 hl170_0
                  replace p170 := eq_true p170
                  replace q170 := eq_true q170
                  go_wp2_with (first | ((with_reducible refine gC 121 ?_); refine cL (some 18) Try.func121 #[.slice A170_0 ((rd_T41 l0 x5_1).f0).length c170_0, .int .i64 x1_1] ?_; (with_reducible refine (laws_heldPointS.calls k1 _ _ ((rd_T41 l0 x5_1).f0) x1_1 t171 _ ?side1 ?side2 A5.out).mono ?_); (case side1 => repeat (first | exact HR170_0.out | (with_reducible refine Kd.C_alloc ?_ _) | (with_reducible refine Kd.C_drewN ?_ _) | (with_reducible refine Kd.C_drew ?_))); (case side2 => exact HC170_0.out); rintro e w' ⟨rfl, ⟨nd, rfl⟩⟩; refine ⟨_, rfl, ?_⟩; have p172 : 0 ≤ (x5_1 : Int) := of_decide_eq_true (by first | (with_reducible assumption) | assumption); have q172 : x5_1 < (l0.length : Int) := of_decide_eq_true (by first | (with_reducible assumption) | assumption); obtain ⟨ad172, A172_0, c172_0, e172, hx172_0, hx172_1, hx172_2, hx172_3, hx172_4, hx172_5, hl172_0, hi172_0⟩ := at_T41 HR0.out x5_1 p172 q172; obtain rfl : ad170 = ad172 := (by injection e172); have HR172_0 := Aside0.mk hi172_0; have HC172_0 := Aside0.mk hl172_0; clear hi172_0 hl172_0; replace p172 := eq_true p172; replace q172 := eq_true q172; have ea_ := Option.some.inj (hx170_0.symm.trans hx172_0); injection ea_ with ea_ en_ ec_; subst ea_; subst ec_; clear en_; have p173 : 0 ≤ (x5_1 : Int) := of_decide_eq_true (by first | (with_reducible assumption) | assumption); have q173 : x5_1 < (l0.length : Int) := of_decide_eq_true (by first | (with_reducible assumption) | assumption); obtain ⟨ad173, A173_0, c173_0, e173, hx173_0, hx173_1, hx173_2, hx173_3, hx173_4, hx173_5, hl173_0, hi173_0⟩ := at_T41 HR0.out x5_1 p173 q173; obtain rfl : ad170 = ad173 := (by injection e173); have HR173_0 := Aside0.mk hi173_0; have HC173_0 := Aside0.mk hl173_0; clear hi173_0 hl173_0; replace p173 := eq_true p173; replace q173 := eq_true q173; have ea_ := Option.some.inj (hx170_0.symm.trans hx173_0); injection ea_ with ea_ en_ ec_; subst ea_; subst ec_; clear en_; have p174 : 0 ≤ (x5_1 : Int) := of_decide_eq_true (by first | (with_reducible assumption) | assumption); have q174 : x5_1 < (l0.length : Int) := of_decide_eq_true (by first | (with_reducible assumption) | assumption); obtain ⟨ad174, A174_0, c174_0, e174, hx174_0, hx174_1, hx174_2, hx174_3, hx174_4, hx174_5, hl174_0, hi174_0⟩ := at_T41 HR0.out x5_1 p174 q174; obtain rfl : ad170 = ad174 := (by injection e174); have HR174_0 := Aside0.mk hi174_0; have HC174_0 := Aside0.mk hl174_0; clear hi174_0 hl174_0; replace p174 := eq_true p174; replace q174 := eq_true q174; have ea_ := Option.some.inj (hx170_0.symm.trans hx174_0); injection ea_ with ea_ en_ ec_; subst ea_; subst ec_; clear en_))
                  go_ret
                  exact ⟨by first | rfl | (simp; done) | (simp [*]; done), by repeat (first | exact Drawn0.refl _ | apply Drawn0.step)⟩
              · rw [if_neg c8] at H
                have c8b0 : (((rd_T41 l0 x5_1).f2.f0) == (wrap64 (t171 + 1))) = false := beq_eq_false_iff_ne.mpr c8
                have c8b1 : (((rd_T41 l0 x5_1).f2.f0) != (wrap64 (t171 + 1))) = true := bne_iff_ne.mpr c8
                obtain rfl := Option.some.inj H
                have p170 : 0 ≤ (x5_1 : Int) := of_decide_eq_true (by first | (with_reducible assumption) | assumption)
                have q170 : x5_1 < (l0.length : Int) := of_decide_eq_true (by first | (with_reducible assumption) | assumption)
                obtain ⟨ad170, A170_0, c170_0, e170, hx170_0, hx170_1, hx170_2, hx170_3, hx170_4, hx170_5, hl170_0, hi170_0⟩ := at_T41 HR0.out x5_1 p170 q170
                cases e170
                have HR170_0 := Aside0.mk hi170_0
                have HC170_0 := Aside0.mk hl170_0
                clear hi170_0 hl170_0
                replace p170 := eq_true p170
                replace q170 := eq_true q170
                go_wp2_with (first | ((with_reducible refine gC 121 ?_); refine cL (some 18) Try.func121 #[.slice A170_0 ((rd_T41 l0 x5_1).f0).length c170_0, .int .i64 x1_1] ?_; (with_reducible refine (laws_heldPointS.calls k1 _ _ ((rd_T41 l0 x5_1).f0) x1_1 t171 _ ?side1 ?side2 A5.out).mono ?_); (case side1 => repeat (first | exact HR170_0.out | (with_reducible refine Kd.C_alloc ?_ _) | (with_reducible refine Kd.C_drewN ?_ _) | (with_reducible refine Kd.C_drew ?_))); (case side2 => exact HC170_0.out); rintro e w' ⟨rfl, ⟨nd, rfl⟩⟩; refine ⟨_, rfl, ?_⟩; have p172 : 0 ≤ (x5_1 : Int) := of_decide_eq_true (by first | (with_reducible assumption) | assumption); have q172 : x5_1 < (l0.length : Int) := of_decide_eq_true (by first | (with_reducible assumption) | assumption); obtain ⟨ad172, A172_0, c172_0, e172, hx172_0, hx172_1, hx172_2, hx172_3, hx172_4, hx172_5, hl172_0, hi172_0⟩ := at_T41 HR0.out x5_1 p172 q172; obtain rfl : ad170 = ad172 := (by injection e172); have HR172_0 := Aside0.mk hi172_0; have HC172_0 := Aside0.mk hl172_0; clear hi172_0 hl172_0; replace p172 := eq_true p172; replace q172 := eq_true q172; have ea_ := Option.some.inj (hx170_0.symm.trans hx172_0); injection ea_ with ea_ en_ ec_; subst ea_; subst ec_; clear en_; have p173 : 0 ≤ (x5_1 : Int) := of_decide_eq_true (by first | (with_reducible assumption) | assumption); have q173 : x5_1 < (l0.length : Int) := of_decide_eq_true (by first | (with_reducible assumption) | assumption); obtain ⟨ad173, A173_0, c173_0, e173, hx173_0, hx173_1, hx173_2, hx173_3, hx173_4, hx173_5, hl173_0, hi173_0⟩ := at_T41 HR0.out x5_1 p173 q173; obtain rfl : ad170 = ad173 := (by injection e173); have HR173_0 := Aside0.mk hi173_0; have HC173_0 := Aside0.mk hl173_0; clear hi173_0 hl173_0; replace p173 := eq_true p173; replace q173 := eq_true q173; have ea_ := Option.some.inj (hx170_0.symm.trans hx173_0); injection ea_ with ea_ en_ ec_; subst ea_; subst ec_; clear en_))
                go_ret
                exact ⟨by first | rfl | (simp; done) | (simp [*]; done), by repeat (first | exact Drawn0.refl _ | apply Drawn0.step)⟩
            · rw [if_neg c7] at H
              have c7b0 : (((rd_T41 l0 x5_1).f1) == t171) = false := beq_eq_false_iff_ne.mpr c7
              have c7b1 : (((rd_T41 l0 x5_1).f1) != t171) = true := bne_iff_ne.mpr c7
              obtain rfl := Option.some.inj H
              have p170 : 0 ≤ (x5_1 : Int) := of_decide_eq_true (by first | (with_reducible assumption) | assumption)
              have q170 : x5_1 < (l0.length : Int) := of_decide_eq_true (by first | (with_reducible assumption) | assumption)
              obtain ⟨ad170, A170_0, c170_0, e170, hx170_0, hx170_1, hx170_2, hx170_3, hx170_4, hx170_5, hl170_0, hi170_0⟩ := at_T41 HR0.out x5_1 p170 q170
              cases e170
              have HR170_0 := Aside0.mk hi170_0
              have HC170_0 := Aside0.mk hl170_0
              clear hi170_0 hl170_0
              replace p170 := eq_true p170
              replace q170 := eq_true q170
              go_wp2_with (first | ((with_reducible refine gC 121 ?_); refine cL (some 18) Try.func121 #[.slice A170_0 ((rd_T41 l0 x5_1).f0).length c170_0, .int .i64 x1_1] ?_; (with_reducible refine (laws_heldPointS.calls k1 _ _ ((rd_T41 l0 x5_1).f0) x1_1 t171 _ ?side1 ?side2 A5.out).mono ?_); (case side1 => repeat (first | exact HR170_0.out | (with_reducible refine Kd.C_alloc ?_ _) | (with_reducible refine Kd.C_drewN ?_ _) | (with_reducible refine Kd.C_drew ?_))); (case side2 => exact HC170_0.out); rintro e w' ⟨rfl, ⟨nd, rfl⟩⟩; refine ⟨_, rfl, ?_⟩; have p172 : 0 ≤ (x5_1 : Int) := of_decide_eq_true (by first | (with_reducible assumption) | assumption); have q172 : x5_1 < (l0.length : Int) := of_decide_eq_true (by first | (with_reducible assumption) | assumption); obtain ⟨ad172, A172_0, c172_0, e172, hx172_0, hx172_1, hx172_2, hx172_3, hx172_4, hx172_5, hl172_0, hi172_0⟩ := at_T41 HR0.out x5_1 p172 q172; obtain rfl : ad170 = ad172 := (by injection e172); have HR172_0 := Aside0.mk hi172_0; have HC172_0 := Aside0.mk hl172_0; clear hi172_0 hl172_0; replace p172 := eq_true p172; replace q172 := eq_true q172; have ea_ := Option.some.inj (hx170_0.symm.trans hx172_0); injection ea_ with ea_ en_ ec_; subst ea_; subst ec_; clear en_))
              go_ret
              exact ⟨by first | rfl | (simp; done) | (simp [*]; done), by repeat (first | exact Drawn0.refl _ | apply Drawn0.step)⟩
        · rw [if_neg c4] at H
          exact absurd H (by simp)
      · rw [if_neg c3] at H
        have c3b0 : decide (x5_1 < (l0.length : Int)) = false := decide_eq_false c3
        clear c3
        obtain rfl := Option.some.inj H
        go_wp2
        go_ret
        exact ⟨by first | rfl | (simp; done) | (simp [*]; done), by repeat (first | exact Drawn0.refl _ | apply Drawn0.step)⟩

/-! ### laws_heldBand: function 51 -/
def laws_heldBand.f (k : Nat) (a0_0 : Int) (a0_1 : Int) (l0_2 : List (List Int)) (l0_3 : List (S41)) (a1 : Int) : Option (Int) := (laws_heldIntSS.f k l0_2 a1).bind fun t178 => (if t178 < 0 then (some (-1)) else ((laws_heldObjectS.f k l0_3 t178).bind fun t179 => (if t179 < 0 then (some (-1)) else (some t179))))
theorem laws_heldBand.calls (k : Nat) (a0_0 : Int) (a0_1 : Int) (A0_2 : Option Addr) (c0_2 : Nat) (l0_2 : List (List Int)) (A0_3 : Option Addr) (c0_3 : Nat) (l0_3 : List (S41)) (a1 : Int) (r : Int) (w : World) (hr0_2 : Kd.C (Kd.slice 3 (Kd.int .i64)) w A0_2 l0_2.length l0_2) (hc0_2 : l0_2.length ≤ c0_2) (hr0_3 : Kd.C k41 w A0_3 l0_3.length l0_3) (hc0_3 : l0_3.length ≤ c0_3) (h : laws_heldBand.f k a0_0 a0_1 l0_2 l0_3 a1 = some r) :
    Calls Try.prog 51 #[.agg #[.int .i64 a0_0, .int .i64 a0_1, .slice A0_2 l0_2.length c0_2, .slice A0_3 l0_3.length c0_3], .int .i64 a1] w fun e w' => e = .returned (.int .i64 r) ∧ Below w.heap.size w w' := by
  have hu67 := Try.underlying67
  have HR0_2 := Aside0.mk hr0_2
  have HC0_2 := Aside0.mk hc0_2
  clear hr0_2 hc0_2
  have HR0_3 := Aside0.mk hr0_3
  have HC0_3 := Aside0.mk hc0_3
  clear hr0_3 hc0_3
  have HB := Aside0.mk (Below.refl w.heap.size w)
  have H : ((laws_heldIntSS.f k l0_2 a1).bind fun t178 => (if t178 < 0 then (some (-1)) else ((laws_heldObjectS.f k l0_3 t178).bind fun t179 => (if t179 < 0 then (some (-1)) else (some t179))))) = some r := h
  clear h
  replace H := bN H
  obtain ⟨t178, A3, H⟩ := H
  by_cases c4 : t178 < 0
  · rw [if_pos c4] at H
    have c4b0 : decide (t178 < 0) = true := decide_eq_true c4
    clear c4
    obtain rfl := Option.some.inj H
    go_enter Try.func51, Try.ntmps51
    go_wp2_with (first | ((with_reducible refine gD 2 ?_); refine bxE #[.int .i64 a0_0, .int .i64 a0_1, .slice A0_2 l0_2.length c0_2, .slice A0_3 l0_3.length c0_3] 67 ?_; intro gb177 hg w5 BK177 hb; have GW177 := gE hg; have GE177 := gE hg; replace HB := hB hb; clear hb hg; have hz6 := cz4 BK177) | ((with_reducible refine gC 66 ?_); refine cL (some 8) Try.func66 #[.slice A0_2 l0_2.length c0_2, .int .i64 a1] ?_; (with_reducible refine (laws_heldIntSS.calls k _ _ l0_2 a1 t178 _ ?side1 ?side2 A3.out).mono ?_); (case side1 => exact cS (Kd.C_below HR0_2.out HB.out)); (case side2 => exact HC0_2.out); rintro e w' ⟨rfl, ⟨nd, rfl⟩⟩; refine ⟨_, rfl, ?_⟩))
    go_ret
    exact ⟨eS, bS⟩
  · rw [if_neg c4] at H
    have c4b0 : decide (t178 < 0) = false := decide_eq_false c4
    clear c4
    replace H := bN H
    obtain ⟨t179, A7, H⟩ := H
    by_cases c8 : t179 < 0
    · rw [if_pos c8] at H
      have c8b0 : decide (t179 < 0) = true := decide_eq_true c8
      clear c8
      obtain rfl := Option.some.inj H
      go_enter Try.func51, Try.ntmps51
      go_wp2_with (first | ((with_reducible refine gD 2 ?_); refine bxE #[.int .i64 a0_0, .int .i64 a0_1, .slice A0_2 l0_2.length c0_2, .slice A0_3 l0_3.length c0_3] 67 ?_; intro gb177 hg w9 BK177 hb; have GW177 := gE hg; have GE177 := gE hg; replace HB := hB hb; clear hb hg; have hz10 := cz4 BK177) | ((with_reducible refine gC 66 ?_); refine cL (some 8) Try.func66 #[.slice A0_2 l0_2.length c0_2, .int .i64 a1] ?_; (with_reducible refine (laws_heldIntSS.calls k _ _ l0_2 a1 t178 _ ?side1 ?side2 A3.out).mono ?_); (case side1 => exact cS (Kd.C_below HR0_2.out HB.out)); (case side2 => exact HC0_2.out); rintro e w' ⟨rfl, ⟨nd, rfl⟩⟩; refine ⟨_, rfl, ?_⟩) | ((with_reducible refine gC 69 ?_); refine cL (some 14) Try.func69 #[.slice A0_3 l0_3.length c0_3, .int .i64 t178] ?_; (with_reducible refine (laws_heldObjectS.calls k _ _ l0_3 t178 t179 _ ?side1 ?side2 A7.out).mono ?_); (case side1 => exact cS (Kd.C_below HR0_3.out bS)); (case side2 => exact HC0_3.out); rintro e w' ⟨rfl, ⟨nd, rfl⟩⟩; refine ⟨_, rfl, ?_⟩))
      go_ret
      exact ⟨eS, bS⟩
    · rw [if_neg c8] at H
      have c8b0 : decide (t179 < 0) = false := decide_eq_false c8
      clear c8
      obtain rfl := Option.some.inj H
      go_enter Try.func51, Try.ntmps51
      go_wp2_with (first | ((with_reducible refine gD 2 ?_); refine bxE #[.int .i64 a0_0, .int .i64 a0_1, .slice A0_2 l0_2.length c0_2, .slice A0_3 l0_3.length c0_3] 67 ?_; intro gb177 hg w11 BK177 hb; have GW177 := gE hg; have GE177 := gE hg; replace HB := hB hb; clear hb hg; have hz12 := cz4 BK177) | ((with_reducible refine gC 66 ?_); refine cL (some 8) Try.func66 #[.slice A0_2 l0_2.length c0_2, .int .i64 a1] ?_; (with_reducible refine (laws_heldIntSS.calls k _ _ l0_2 a1 t178 _ ?side1 ?side2 A3.out).mono ?_); (case side1 => exact cS (Kd.C_below HR0_2.out HB.out)); (case side2 => exact HC0_2.out); rintro e w' ⟨rfl, ⟨nd, rfl⟩⟩; refine ⟨_, rfl, ?_⟩) | ((with_reducible refine gC 69 ?_); refine cL (some 14) Try.func69 #[.slice A0_3 l0_3.length c0_3, .int .i64 t178] ?_; (with_reducible refine (laws_heldObjectS.calls k _ _ l0_3 t178 t179 _ ?side1 ?side2 A7.out).mono ?_); (case side1 => exact cS (Kd.C_below HR0_3.out bS)); (case side2 => exact HC0_3.out); rintro e w' ⟨rfl, ⟨nd, rfl⟩⟩; refine ⟨_, rfl, ?_⟩))
      go_ret
      exact ⟨eS, bS⟩

end Go.Proofs.Ytimpejidlnjhlaa.QFnExactNewBand
